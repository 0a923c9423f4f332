import Derived.Test.YtnehocjmgnhhhaaDoorFsu2
/- Reports: the document's ReadState, whole. -/
namespace Go.Proofs.YtnehocjmgnhhhaaDoor
open Go.RowKit
set_option linter.unusedVariables false
attribute [local irreducible] K.KW K.RW K.DW K.OW K.QR K.KC
def zipP (ks vs : List Int) : List PairM := List.zipWith (fun k v => ⟨k, v⟩) ks vs
theorem zipP_next {ks vs : List Int} {j : Nat} (hk : j < ks.length) (hv : j < vs.length) : zipP (ks.take (j + 1)) (vs.take (j + 1)) = zipP (ks.take j) (vs.take j) ++ [⟨ks.getD j 0, vs.getD j 0⟩] := by
  unfold zipP
  rw [List.take_succ_eq_append_getElem hk, List.take_succ_eq_append_getElem hv, List.zipWith_append (by simp; omega)]
  simp [hk, hv]
/-- the state of a text, as the document takes it -/
def stP (l : List UInt8) : StM := ⟨valsT 0 ((K.spl 10 l).getD 0 []), valsT 0 ((K.spl 10 l).getD 1 []), zipP (valsT 0 ((K.spl 10 l).getD 2 [])) (valsT 1 ((K.spl 10 l).getD 2 []))⟩
theorem valsT_len (part : Nat) (l : List UInt8) : (valsT part l).length = l.count 32 := by
  unfold valsT
  rw [List.length_map, List.length_drop, K.spl_len]; omega
theorem valsT_in (part : Nat) (l : List UInt8) (i : Nat) : isU32 ((valsT part l).getD i 0) :=
  all_getD (p := isU32) (fun a ha => by unfold valsT at ha; obtain ⟨w, _, rfl⟩ := List.mem_map.1 ha; exact valT_in part w) (by decide) i
theorem zipP_len {ks vs : List Int} (h : ks.length = vs.length) : (zipP ks vs).length = ks.length := by unfold zipP; rw [List.length_zipWith]; omega
theorem zipP_in {ks vs : List Int} (hk : ∀ a ∈ ks, isU32 a) (hv : ∀ a ∈ vs, isU32 a) : ∀ p ∈ zipP ks vs, isP p := by
  unfold zipP
  induction ks generalizing vs with
  | nil => intro p hp; simp at hp
  | cons a r ih =>
    cases vs with
    | nil => intro p hp; simp at hp
    | cons b t =>
      intro p hp
      rw [List.zipWith_cons_cons] at hp
      rcases List.mem_cons.1 hp with rfl | hp
      · exact ⟨hk a (by simp), hv b (by simp)⟩
      · exact ih (fun x hx => hk x (by simp [hx])) (fun x hx => hv x (by simp [hx])) p hp
theorem valsT_mem (part : Nat) (l : List UInt8) : ∀ a ∈ valsT part l, isU32 a := fun a ha => by unfold valsT at ha; obtain ⟨w, _, rfl⟩ := List.mem_map.1 ha; exact valT_in part w
theorem stP_fits (l : List UInt8) : (stP l).fits := ⟨valsT_in _ _, valsT_in _ _, all_getD (zipP_in (valsT_mem _ _) (valsT_mem _ _)) (by exact ⟨by decide, by decide⟩)⟩
theorem cnt_le (l : List UInt8) (i : Nat) : ((K.spl 10 l).getD i []).count 32 ≤ l.length := Nat.le_trans List.count_le_length (K.getD_spl_len 10 l i)
theorem stP_few {l : List UInt8} (h : l.length ≤ 1000) : (stP l).few := by
  have h0 := cnt_le l 0; have h1 := cnt_le l 1; have h2 := cnt_le l 2
  refine ⟨?_, ?_, ?_⟩
  · show (valsT _ _).length ≤ _; rw [valsT_len]; omega
  · show (valsT _ _).length ≤ _; rw [valsT_len]; omega
  · show (zipP _ _).length ≤ _; rw [zipP_len (by rw [valsT_len, valsT_len]), valsT_len]; omega
/-- what the document's ReadState answers -/
def RtOk (w0 : World) (l : List UInt8) (v : Value) (post : List K.Cs) : Prop :=
  (∃ (S : StM) (a1 a2 a3 : Option Addr) (c1 c2 c3 : Nat) (g1 g2 g3 : K.Cs), S = stP l ∧ (K.spl 10 l).length = 4 ∧ stR S = l ∧ (risingB S.s && risingB (keysP S.m)) = true ∧ post = [g1, g2, g3] ∧ v = .tuple #[.agg #[.slice a1 S.q.length c1, .slice a2 S.s.length c2, .slice a3 S.m.length c3], .int .i64 0] ∧
    K.OwnG g1 23 1 a1 S.q.length c1 (S.q.flatMap cU32) ∧ K.OwnG g2 23 1 a2 S.s.length c2 (S.s.flatMap cU32) ∧ K.OwnG g3 92 2 a3 S.m.length c3 (S.m.flatMap cPair)) ∨
  (¬ ((K.spl 10 l).length = 4 ∧ stR (stP l) = l) ∧ post = [] ∧ v = .tuple #[.agg #[.slice none 0 0, .slice none 0 0, .slice none 0 0], .int .i64 3]) ∨
  ((K.spl 10 l).length = 4 ∧ stR (stP l) = l ∧ (risingB (stP l).s && risingB (keysP (stP l).m)) = false ∧ post = [] ∧ v = .tuple #[.agg #[.slice none 0 0, .slice none 0 0, .slice none 0 0], .int .i64 9])
set_option maxHeartbeats 8000000 in
set_option maxRecDepth 100000 in
theorem rrst_ok (w0 : World) (l : List UInt8) (hl : l.length ≤ 1000) :
    K.GC Tryd.prog w0 21 #[.string (K.sb l)] [] (fun v post => RtOk w0 l v post) := by
  refine K.GC.mk (n := 62) Tryd.func21 rfl rfl [.string (K.sb l)] rfl rfl ?_
  intro fr w hS
  replace hS : K.Sat w0 [fr] w := hS
  refine K.KW.seq ?_
  -- 0 :151
  refine K.KW.region ?_
  refine K.RW.l rfl (K.OW.gnew 46 [.slice none 0 0, .slice none 0 0, .slice none 0 0] hS ?_)
  clear hS; intro w r_1 g_2 hg_3 hS
  refine K.RW.qs [.int .i64 0] (by kernel_rfl) ?_
  refine K.RW.nil ?_
  refine K.thn_normal ?_
  refine K.KW.seq ?_
  -- 1 :152
  refine K.KW.region ?_
  refine K.RW.qs [.string (K.sb l)] (by kernel_rfl) ?_
  refine K.RW.l rfl (K.OW.gcall hS [] [0, 1] [.string (K.sb l), .int .u8 10] (rsplit_ok _ l 10 (by omega)) ?_)
  clear hS; rintro _ _ w ⟨r_4, g_5, k_6, rfl, rfl, o_7⟩ hS
  replace hS : K.Sat w0 [g_5, g_2, fr] w := hS
  refine K.RW.qs [.slice r_4 ((K.spl 10 l).length) k_6] (by kernel_rfl) ?_
  refine K.RW.nil ?_
  refine K.thn_normal ?_
  refine K.KW.seq ?_
  refine K.KW.seq ?_
  -- 2 :153
  refine K.KW.region ?_
  refine K.RW.qs [.slice r_4 ((K.spl 10 l).length) k_6] (by kernel_rfl) ?_
  refine K.RW.q rfl rfl (K.QR.len (P := Tryd.prog) rfl rfl Tryd.underlying68) ?_
  by_cases h_8 : ((((K.spl 10 l).length : Nat) : Int) : Int) = (4 : Int)
  ·  -- yes
    refine K.RW.q rfl rfl (K.QR.nice (v := .bool (((((K.spl 10 l).length : Nat) : Int) : Int) != (4 : Int))) (by kernel_rfl) (congrArg Value.bool (bne_eq_false_iff_eq.2 h_8))) ?_
    refine K.RW.nil ?_
    refine K.thn_normal ?_
    refine K.KW.ifF rfl ?_
    refine K.KW.skip ?_
    refine K.thn_normal ?_
    refine K.KW.seq ?_
    -- 4 :156
    obtain ⟨b_9, rfl⟩ := o_7.some_ (by have := o_7.le; omega)
    have hl0 := K.getD_spl_len 10 l 0
    have hl1 := K.getD_spl_len 10 l 1
    have hl2 := K.getD_spl_len 10 l 2
    have hv00 := valsT_len 0 ((K.spl 10 l).getD 0 [])
    have hc00 := cnt_le l 0
    have hv10 := valsT_len 0 ((K.spl 10 l).getD 1 [])
    have hc10 := cnt_le l 1
    have hv20 := valsT_len 0 ((K.spl 10 l).getD 2 [])
    have hc20 := cnt_le l 2
    have hv21 := valsT_len 1 ((K.spl 10 l).getD 2 [])
    have hc21 := cnt_le l 2
    refine K.KW.gdrawn [0] hS (by kernel_rfl) ?_
    clear hS; intro w hS
    refine K.DW.q 0 (by kernel_rfl) rfl rfl (by kernel_rfl) rfl (fun w hS => K.QR.k (v := .slice (some ⟨b_9, 0, none⟩) ((K.spl 10 l).length) k_6) (by kernel_rfl)) (hS.pick [0]) ?_
    refine K.DW.q 1 (by kernel_rfl) rfl rfl (by kernel_rfl) rfl (fun w hS => K.QR.ix 0 1 rfl rfl rfl Tryd.underlying68 (by kernel_rfl) (by omega) (by first | (simp; done) | omega | (simp; omega))) (hS.pick [0]) ?_
    refine K.DW.q 2 (by kernel_rfl) rfl rfl (by kernel_rfl) rfl (fun w hS => K.QR.ld1 (v := .string (K.sb ((K.spl 10 l).getD 0 []))) rfl rfl (by kernel_rfl) (K.Own.atS (c := K.cStr) (d := []) (fun _ => rfl) (hS.ownr 0 rfl o_7) rfl 0 (by omega))) (hS.pick [0]) ?_
    refine K.DW.q 4 (by kernel_rfl) rfl rfl (by kernel_rfl) rfl (fun w hS => K.QR.k (v := .slice (some ⟨b_9, 0, none⟩) ((K.spl 10 l).length) k_6) (by kernel_rfl)) (hS.pick [0]) ?_
    refine K.DW.q 5 (by kernel_rfl) rfl rfl (by kernel_rfl) rfl (fun w hS => K.QR.ix 1 1 rfl rfl rfl Tryd.underlying68 (by kernel_rfl) (by omega) (by first | (simp; done) | omega | (simp; omega))) (hS.pick [0]) ?_
    refine K.DW.q 6 (by kernel_rfl) rfl rfl (by kernel_rfl) rfl (fun w hS => K.QR.ld1 (v := .string (K.sb ((K.spl 10 l).getD 1 []))) rfl rfl (by kernel_rfl) (K.Own.atS (c := K.cStr) (d := []) (fun _ => rfl) (hS.ownr 0 rfl o_7) rfl 1 (by omega))) (hS.pick [0]) ?_
    refine K.DW.l2 3 9 rfl rfl (by kernel_rfl) rfl rfl ?_ ?_
    ·  -- first 3
      refine (K.OW.gcall hS [] [0, 1, 2] [.string (K.sb ((K.spl 10 l).getD 0 [])), .int .i64 0] (values_ok _ ((K.spl 10 l).getD 0 []) 0 (by omega) (by omega)) ?_)
      clear hS; rintro _ _ w ⟨r_11, c_12, g_13, rfl, rfl, o_14⟩ hS
      replace hS : K.Sat w0 [g_13, g_5, g_2, fr] w := hS
      refine ⟨.inl (hS.pick [1]), ?_⟩
      refine K.DW.l2 7 9 rfl rfl (by kernel_rfl) rfl rfl ?_ ?_
      ·  -- first 7
        refine (K.OW.gcall hS [] [0, 1, 2, 3] [.string (K.sb ((K.spl 10 l).getD 1 [])), .int .i64 0] (values_ok _ ((K.spl 10 l).getD 1 []) 0 (by omega) (by omega)) ?_)
        clear hS; rintro _ _ w ⟨r_15, c_16, g_17, rfl, rfl, o_18⟩ hS
        replace hS : K.Sat w0 [g_17, g_13, g_5, g_2, fr] w := hS
        refine ⟨.inl (hS.pick [2]), ?_⟩
        refine K.DW.q 8 (by kernel_rfl) rfl rfl (by kernel_rfl) rfl (fun w hS => K.QR.bd [(0, .slice r_11 ((valsT 0 ((K.spl 10 l).getD 0 [])).length) c_12), (1, .slice r_15 ((valsT 0 ((K.spl 10 l).getD 1 [])).length) c_16)] [.slice r_11 ((valsT 0 ((K.spl 10 l).getD 0 [])).length) c_12, .slice r_15 ((valsT 0 ((K.spl 10 l).getD 1 [])).length) c_16, .slice none 0 0] rfl rfl (by kernel_rfl)) (hS.pick [2]) ?_
        refine K.DW.l 9 rfl (by kernel_rfl) rfl (K.OW.gnew 46 [.slice none 0 0, .slice none 0 0, .slice none 0 0] hS ?_)
        clear hS; intro w r_19 g_20 hg_21 hS
        refine ⟨.inl (hS.pick [3]), ?_⟩
        refine K.DW.l 10 rfl (by kernel_rfl) rfl (K.OW.gst 0 [.slice r_11 ((valsT 0 ((K.spl 10 l).getD 0 [])).length) c_12, .slice r_15 ((valsT 0 ((K.spl 10 l).getD 1 [])).length) c_16, .slice none 0 0] [.slice r_11 ((valsT 0 ((K.spl 10 l).getD 0 [])).length) c_12, .slice r_15 ((valsT 0 ((K.spl 10 l).getD 1 [])).length) c_16, .slice none 0 0] hS hg_21 ?_)
        clear hS; intro w g_22 hg_23 hS
        replace hS : K.Sat w0 [g_22, g_17, g_13, g_5, g_2, fr] w := hS
        refine ⟨.inr (by kernel_rfl), ?_⟩
        refine K.DW.done (by kernel_rfl) ?_
        refine K.thn_normal ?_
        refine K.KW.seq ?_
        -- 5 :157
        refine K.KW.gdrawn [3] hS (by kernel_rfl) ?_
        clear hS; intro w hS
        refine K.DW.q 0 (by kernel_rfl) rfl rfl (by kernel_rfl) rfl (fun w hS => K.QR.k (v := .slice (some ⟨b_9, 0, none⟩) ((K.spl 10 l).length) k_6) (by kernel_rfl)) (hS.pick [3]) ?_
        refine K.DW.q 1 (by kernel_rfl) rfl rfl (by kernel_rfl) rfl (fun w hS => K.QR.ix 2 1 rfl rfl rfl Tryd.underlying68 (by kernel_rfl) (by omega) (by first | (simp; done) | omega | (simp; omega))) (hS.pick [3]) ?_
        refine K.DW.q 2 (by kernel_rfl) rfl rfl (by kernel_rfl) rfl (fun w hS => K.QR.ld1 (v := .string (K.sb ((K.spl 10 l).getD 2 []))) rfl rfl (by kernel_rfl) (K.Own.atS (c := K.cStr) (d := []) (fun _ => rfl) (hS.ownr 0 rfl o_7) rfl 2 (by omega))) (hS.pick [3]) ?_
        refine K.DW.q 4 (by kernel_rfl) rfl rfl (by kernel_rfl) rfl (fun w hS => K.QR.k (v := .slice (some ⟨b_9, 0, none⟩) ((K.spl 10 l).length) k_6) (by kernel_rfl)) (hS.pick [3]) ?_
        refine K.DW.q 5 (by kernel_rfl) rfl rfl (by kernel_rfl) rfl (fun w hS => K.QR.ix 2 1 rfl rfl rfl Tryd.underlying68 (by kernel_rfl) (by omega) (by first | (simp; done) | omega | (simp; omega))) (hS.pick [3]) ?_
        refine K.DW.q 6 (by kernel_rfl) rfl rfl (by kernel_rfl) rfl (fun w hS => K.QR.ld1 (v := .string (K.sb ((K.spl 10 l).getD 2 []))) rfl rfl (by kernel_rfl) (K.Own.atS (c := K.cStr) (d := []) (fun _ => rfl) (hS.ownr 0 rfl o_7) rfl 2 (by omega))) (hS.pick [3]) ?_
        refine K.DW.l 3 rfl (by kernel_rfl) rfl (K.OW.gcall hS [] [0, 1, 2, 3, 4, 5] [.string (K.sb ((K.spl 10 l).getD 2 [])), .int .i64 0] (values_ok _ ((K.spl 10 l).getD 2 []) 0 (by omega) (by omega)) ?_)
        clear hS; rintro _ _ w ⟨r_24, c_25, g_26, rfl, rfl, o_27⟩ hS
        replace hS : K.Sat w0 [g_26, g_22, g_17, g_13, g_5, g_2, fr] w := hS
        refine ⟨.inl (hS.pick [4]), ?_⟩
        refine K.DW.l 7 rfl (by kernel_rfl) rfl (K.OW.gcall hS [] [0, 1, 2, 3, 4, 5, 6] [.string (K.sb ((K.spl 10 l).getD 2 [])), .int .i64 1] (values_ok _ ((K.spl 10 l).getD 2 []) 1 (by omega) (by omega)) ?_)
        clear hS; rintro _ _ w ⟨r_28, c_29, g_30, rfl, rfl, o_31⟩ hS
        replace hS : K.Sat w0 [g_30, g_26, g_22, g_17, g_13, g_5, g_2, fr] w := hS
        refine ⟨.inl (hS.pick [5]), ?_⟩
        refine K.DW.l 8 rfl (by kernel_rfl) rfl (K.OW.q rfl (K.QR.k (v := .slice r_24 ((valsT 0 ((K.spl 10 l).getD 2 [])).length) c_25) (by kernel_rfl)) ?_)
        refine ⟨.inl (hS.pick [5]), ?_⟩
        refine K.DW.l 9 rfl (by kernel_rfl) rfl (K.OW.q rfl (K.QR.k (v := .slice r_28 ((valsT 1 ((K.spl 10 l).getD 2 [])).length) c_29) (by kernel_rfl)) ?_)
        refine ⟨.inl (hS.pick [5]), ?_⟩
        refine K.DW.done (by kernel_rfl) ?_
        refine K.thn_normal ?_
        refine K.KW.seq ?_
        refine K.KW.seq ?_
        -- 6 :158
        refine K.KW.region ?_
        refine K.RW.qs [.int .i64 0] (by kernel_rfl) ?_
        refine K.RW.nil ?_
        refine K.thn_normal ?_
        refine K.KW.block ?_
        obtain ⟨z_32, hz_33⟩ : ∃ z : K.Cs, z = [] := ⟨_, rfl⟩
        replace hS : K.Sat w0 [z_32, g_30, g_26, g_22, g_17, g_13, g_5, g_2, fr] w := hS.of (by simp [hz_33])
        have o_34 : K.OwnG z_32 92 2 none 0 0 [] := by rw [hz_33]; exact K.OwnG.nil _ _
        refine K.KW.loop (fun m_ F_ w_ => ∃ (j : Nat) (o : List PairM) (q1 : Option Addr) (c1 : Nat) (o1 : K.Cs) (g5 : K.Cs), m_ = (valsT 0 ((K.spl 10 l).getD 2 [])).length - j ∧ K.Sl F_ [(0, .string (K.sb l)), (2, .pointer (some ⟨r_1, 0, none⟩)), (3, .int .i64 0), (5, .pointer (some ⟨r_19, 0, none⟩)), (6, .slice r_24 ((valsT 0 ((K.spl 10 l).getD 2 [])).length) c_25), (7, .slice r_28 ((valsT 1 ((K.spl 10 l).getD 2 [])).length) c_29), (8, .int .i64 ((j : Nat) : Int)), (62, undef)] ∧ j ≤ (valsT 0 ((K.spl 10 l).getD 2 [])).length ∧ o = zipP ((valsT 0 ((K.spl 10 l).getD 2 [])).take j) ((valsT 1 ((K.spl 10 l).getD 2 [])).take j) ∧ o.length ≤ j ∧ K.OwnG o1 92 2 q1 o.length c1 ((o).flatMap cPair) ∧ g5 = [K.pt r_19 46 [.slice r_11 ((valsT 0 ((K.spl 10 l).getD 0 [])).length) c_12, .slice r_15 ((valsT 0 ((K.spl 10 l).getD 1 [])).length) c_16, .slice q1 o.length c1]] ∧ K.Sat w0 [o1, g_30, g_26, g5, g_17, g_13, g_5, g_2, fr] w_) ((fun (j : Nat) (o : List PairM) (q1 : Option Addr) (c1 : Nat) => (valsT 0 ((K.spl 10 l).getD 2 [])).length - j) 0 [] none 0) ?_ ?_
        · -- begins
          exact ⟨0, [], none, 0, z_32, g_22, rfl, ⟨by rfl, by rfl, by rfl, by rfl, by rfl, by rfl, by rfl, by rfl, trivial⟩, (by omega), (rfl), (by exact Nat.le_refl 0), o_34, hg_23, hS.pick [0, 1, 2, 3, 4, 5, 6, 7, 8]⟩
        · -- a round
          clear hS
          intro m_35 F_36 w hI
          obtain ⟨j, o, q1, c1, o1, g5, rfl, sl_37, p_38, ho, p_39, x_40, x_41, hS⟩ := hI
          rw [← K.Sl.puts sl_37]; clear sl_37
          refine K.KW.seq ?_
          refine K.KW.seq ?_
          -- 7 :158
          refine K.KW.region ?_
          refine K.RW.qs [.int .i64 ((j : Nat) : Int), .slice r_24 ((valsT 0 ((K.spl 10 l).getD 2 [])).length) c_25] (by kernel_rfl) ?_
          refine K.RW.q rfl rfl (K.QR.len (P := Tryd.prog) rfl rfl Tryd.underlying43) ?_
          by_cases h_42 : (((j : Nat) : Int) : Int) < ((((valsT 0 ((K.spl 10 l).getD 2 [])).length : Nat) : Int) : Int)
          ·  -- yes
            refine K.RW.q rfl rfl (K.QR.nice (v := .bool (decide ((((j : Nat) : Int) : Int) < ((((valsT 0 ((K.spl 10 l).getD 2 [])).length : Nat) : Int) : Int)))) (by kernel_rfl) (congrArg Value.bool (decide_eq_true h_42))) ?_
            refine K.RW.nil ?_
            refine K.thn_normal ?_
            refine K.KW.ifT rfl ?_
            refine K.KW.skip ?_
            refine K.thn_normal ?_
            refine K.KW.seq ?_
            refine K.KW.block ?_
            -- 9 :159
            obtain ⟨b_43, rfl⟩ := o_27.some_ (by have := o_27.le; omega)
            obtain ⟨b_45, rfl⟩ := o_31.some_ (by have := o_31.le; omega)
            refine K.KW.gdrawn [2, 3] hS (by kernel_rfl) ?_
            clear hS; intro w hS
            refine K.DW.q 0 (by kernel_rfl) rfl rfl (by kernel_rfl) rfl (fun w hS => K.QR.k (v := .pointer (some ⟨r_19, 2, none⟩)) (by kernel_rfl)) (hS.pick [2, 3]) ?_
            refine K.DW.q 1 (by kernel_rfl) rfl rfl (by kernel_rfl) rfl (fun w hS => K.QR.ld1 (v := .slice q1 o.length c1) rfl rfl (by kernel_rfl) ((hS.blk 1 rfl x_41).cell rfl)) (hS.pick [2, 3]) ?_
            refine K.DW.q 2 (by kernel_rfl) rfl rfl (by kernel_rfl) rfl (fun w hS => K.QR.k (v := .slice (some ⟨b_43, 0, none⟩) ((valsT 0 ((K.spl 10 l).getD 2 [])).length) c_25) (by kernel_rfl)) (hS.pick [2, 3]) ?_
            refine K.DW.q 3 (by kernel_rfl) rfl rfl (by kernel_rfl) rfl (fun w hS => K.QR.k (v := .int .i64 ((j : Nat) : Int)) (by kernel_rfl)) (hS.pick [2, 3]) ?_
            refine K.DW.q 4 (by kernel_rfl) rfl rfl (by kernel_rfl) rfl (fun w hS => K.QR.ix j 1 rfl rfl rfl Tryd.underlying43 (by kernel_rfl) (by omega) (by first | (simp; done) | omega | (simp; omega))) (hS.pick [2, 3]) ?_
            refine K.DW.q 5 (by kernel_rfl) rfl rfl (by kernel_rfl) rfl (fun w hS => K.QR.ld1 (v := .int .u32 ((valsT 0 ((K.spl 10 l).getD 2 [])).getD j 0)) rfl rfl (by kernel_rfl) (K.Own.atS (c := cU32) (d := 0) (fun _ => rfl) (hS.ownr 0 rfl o_27) rfl j (by omega))) (hS.pick [2, 3]) ?_
            refine K.DW.q 6 (by kernel_rfl) rfl rfl (by kernel_rfl) rfl (fun w hS => K.QR.k (v := .slice (some ⟨b_45, 0, none⟩) ((valsT 1 ((K.spl 10 l).getD 2 [])).length) c_29) (by kernel_rfl)) (hS.pick [2, 3]) ?_
            refine K.DW.l 7 rfl (by kernel_rfl) rfl (K.OW.q rfl (K.QR.k (v := .int .i64 ((j : Nat) : Int)) (by kernel_rfl)) ?_)
            refine ⟨.inl (hS.pick [2, 3]), ?_⟩
            refine K.DW.l 8 rfl (by kernel_rfl) rfl (K.OW.q rfl (K.QR.ix j 1 rfl rfl rfl Tryd.underlying43 (by kernel_rfl) (by omega) (by first | (simp; done) | omega | (simp; omega))) ?_)
            refine ⟨.inl (hS.pick [2, 3]), ?_⟩
            refine K.DW.l 9 rfl (by kernel_rfl) rfl (K.OW.q rfl (K.QR.ld1 (v := .int .u32 ((valsT 1 ((K.spl 10 l).getD 2 [])).getD j 0)) rfl rfl (by kernel_rfl) (K.Own.atS (c := cU32) (d := 0) (fun _ => rfl) (hS.ownr 1 rfl o_31) rfl j (by omega))) ?_)
            refine ⟨.inl (hS.pick [2, 3]), ?_⟩
            refine K.DW.l 10 rfl (by kernel_rfl) rfl (K.OW.q rfl (K.QR.bd [(0, .int .u32 ((valsT 0 ((K.spl 10 l).getD 2 [])).getD j 0)), (1, .int .u32 ((valsT 1 ((K.spl 10 l).getD 2 [])).getD j 0))] [.int .u32 ((valsT 0 ((K.spl 10 l).getD 2 [])).getD j 0), .int .u32 ((valsT 1 ((K.spl 10 l).getD 2 [])).getD j 0)] rfl rfl (by kernel_rfl)) ?_)
            refine ⟨.inl (hS.pick [2, 3]), ?_⟩
            refine K.DW.l 11 rfl (by kernel_rfl) rfl (K.OW.gbs [(0, .agg #[.int .u32 ((valsT 0 ((K.spl 10 l).getD 2 [])).getD j 0), .int .u32 ((valsT 1 ((K.spl 10 l).getD 2 [])).getD j 0)])] [.int .u32 ((valsT 0 ((K.spl 10 l).getD 2 [])).getD j 0), .int .u32 ((valsT 1 ((K.spl 10 l).getD 2 [])).getD j 0)] hS (fun w => K.bs_run (P := Tryd.prog) w 44 92 1 _ _ Tryd.underlying44 (by kernel_rfl)) ?_)
            clear hS; intro w r_47 g_48 hg_49 hS
            refine ⟨.inl (hS.pick [3, 4]), ?_⟩
            refine K.DW.l 12 rfl (by kernel_rfl) rfl (K.OW.gapp (P := Tryd.prog) (xs := (o).flatMap cPair) (z := .agg #[.int .u32 0, .int .u32 0]) (size := 2) (bytes := 8) 1 [.int .u32 ((valsT 0 ((K.spl 10 l).getD 2 [])).getD j 0), .int .u32 ((valsT 1 ((K.spl 10 l).getD 2 [])).getD j 0)] hS x_40 ?_ (fun j u hj => (by rw [Nat.zero_add]; exact (hS.blk 0 rfl hg_49).cell hj)) (K.one_cells (by rfl)) (by rfl) Tryd.underlying44 (by kernel_rfl) rfl (by decide) (by unfold maxLen; omega) (by omega))
            clear hS; intro a_50 cap_51 w l_52 o_53 hS
            have ln_54 : ((o ++ [(⟨(valsT 0 ((K.spl 10 l).getD 2 [])).getD j 0, (valsT 1 ((K.spl 10 l).getD 2 [])).getD j 0⟩ : PairM)])).length = o.length + 1 := by rw [List.length_append]; rfl
            have o_53c := K.OwnG.cast (xs' := ((o ++ [(⟨(valsT 0 ((K.spl 10 l).getD 2 [])).getD j 0, (valsT 1 ((K.spl 10 l).getD 2 [])).getD j 0⟩ : PairM)])).flatMap cPair) o_53 rfl (K.fl_snoc cPair o _ rfl)
            replace hS : K.Sat w0 [g_48, l_52, g_30, g_26, g5, g_17, g_13, g_5, g_2, fr] w := hS
            refine ⟨.inl (hS.pick [3, 4]), ?_⟩
            refine K.DW.l 13 rfl (by kernel_rfl) rfl (K.OW.q rfl (K.QR.k (v := .pointer (some ⟨r_19, 2, none⟩)) (by kernel_rfl)) ?_)
            refine ⟨.inl (hS.pick [3, 4]), ?_⟩
            refine K.DW.l 14 rfl (by kernel_rfl) rfl (K.OW.gst 4 [.slice a_50 (o.length + 1) cap_51] [.slice r_11 ((valsT 0 ((K.spl 10 l).getD 0 [])).length) c_12, .slice r_15 ((valsT 0 ((K.spl 10 l).getD 1 [])).length) c_16, .slice a_50 (o.length + 1) cap_51] hS x_41 ?_)
            clear hS; intro w g_55 hg_56 hS
            replace hS : K.Sat w0 [g_48, l_52, g_30, g_26, g_55, g_17, g_13, g_5, g_2, fr] w := hS
            refine ⟨.inr (by kernel_rfl), ?_⟩
            refine K.DW.done (by kernel_rfl) ?_
            refine K.blk_normal ?_
            refine K.thn_normal ?_
            -- 8 :158
            refine K.KW.region ?_
            refine K.RW.qs [.int .i64 ((j : Nat) : Int)] (by kernel_rfl) ?_
            refine K.RW.q rfl rfl (K.QR.n64 ((((j : Nat) : Int) : Int) + (1 : Int)) ((j + 1 : Nat) : Int) (by kernel_rfl) (by omega)) ?_
            refine K.RW.qs [.int .i64 ((j + 1 : Nat) : Int)] (by kernel_rfl) ?_
            refine K.RW.nil ?_
            refine K.thn_normal ?_
            refine ⟨_, ?_, j + 1, (o ++ [(⟨(valsT 0 ((K.spl 10 l).getD 2 [])).getD j 0, (valsT 1 ((K.spl 10 l).getD 2 [])).getD j 0⟩ : PairM)]), a_50, cap_51, l_52, g_55, rfl, ⟨by rfl, by rfl, by rfl, by rfl, by rfl, by rfl, by rfl, by rfl, trivial⟩, (by omega), (by rw [ho, zipP_next (by omega) (by omega)]), (by first | omega | (rw [List.length_append]; simp; omega)), (K.OwnG.cast o_53c (by first | rfl | (rw [List.length_append]; rfl)) rfl), (by have hq : o.length + 1 = ((o ++ [(⟨(valsT 0 ((K.spl 10 l).getD 2 [])).getD j 0, (valsT 1 ((K.spl 10 l).getD 2 [])).getD j 0⟩ : PairM)])).length := (by first | rfl | (rw [List.length_append]; rfl)); rw [← hq]; exact hg_56), hS.pick [1, 2, 3, 4, 5, 6, 7, 8, 9]⟩
            omega
          ·  -- no
            refine K.RW.q rfl rfl (K.QR.nice (v := .bool (decide ((((j : Nat) : Int) : Int) < ((((valsT 0 ((K.spl 10 l).getD 2 [])).length : Nat) : Int) : Int)))) (by kernel_rfl) (congrArg Value.bool (decide_eq_false h_42))) ?_
            refine K.RW.nil ?_
            refine K.thn_normal ?_
            refine K.KW.ifF rfl ?_
            refine K.KW.exit ?_
            refine K.thn_exit ?_
            refine K.thn_exit ?_
            refine K.blk_hit ?_
            refine K.thn_normal ?_
            refine K.KW.seq ?_
            refine K.KW.seq ?_
            -- 10 :161
            have hSE : (⟨valsT 0 ((K.spl 10 l).getD 0 []), valsT 0 ((K.spl 10 l).getD 1 []), o⟩ : StM) = stP l := by unfold stP; rw [ho, List.take_of_length_le (by omega), List.take_of_length_le (by omega)]
            have hol : o.length ≤ 1000 := by have := (stP_few hl).2.2; rw [← hSE] at this; exact this
            refine K.KW.region ?_
            refine K.RW.q rfl rfl (K.QR.ldN [.slice r_11 ((valsT 0 ((K.spl 10 l).getD 0 [])).length) c_12, .slice r_15 ((valsT 0 ((K.spl 10 l).getD 1 [])).length) c_16, .slice q1 o.length c1] rfl rfl (by kernel_rfl) (by kernel_rfl) (K.cells (K.cl ((hS.blk 3 rfl x_41).cell rfl) (K.cl ((hS.blk 3 rfl x_41).cell rfl) (K.cl ((hS.blk 3 rfl x_41).cell rfl) K.cl0))))) ?_
            refine K.RW.l rfl (K.OW.gcall hS [5, 4, 0] [1, 2, 3, 6, 7, 8] [.agg #[.slice r_11 ((valsT 0 ((K.spl 10 l).getD 0 [])).length) c_12, .slice r_15 ((valsT 0 ((K.spl 10 l).getD 1 [])).length) c_16, .slice q1 o.length c1]] (rst_ok _ _ _ _ _ _ _ (⟨(valsT 0 ((K.spl 10 l).getD 0 [])), (valsT 0 ((K.spl 10 l).getD 1 [])), o⟩ : StM) (hSE ▸ stP_fits l) (hSE ▸ stP_few hl) _ (fun w h => K.RowE.len (K.Own.rowE 0 (h.ownr 0 rfl o_14) rfl (fun _ => rfl)) rfl) _ (fun w h => K.RowE.len (K.Own.rowE 0 (h.ownr 0 rfl o_18) rfl (fun _ => rfl)) rfl) _ (fun w h => K.RowE.len (K.Own.rowE p0 (h.ownr 0 rfl x_40) rfl (fun _ => rfl)) rfl)) ?_)
            clear hS; rintro _ _ w ⟨rfl, rfl⟩ hS
            replace hS : K.Sat w0 [g_13, g_17, o1, g_30, g_26, g5, g_5, g_2, fr] w := hS
            refine K.RW.qs [.string (K.sb l)] (by kernel_rfl) ?_
            by_cases h_57 : (stR (⟨(valsT 0 ((K.spl 10 l).getD 0 [])), (valsT 0 ((K.spl 10 l).getD 1 [])), o⟩ : StM)) = l
            ·  -- yes
              refine K.RW.q rfl rfl (K.QR.sNe (xs := (stR (⟨(valsT 0 ((K.spl 10 l).getD 0 [])), (valsT 0 ((K.spl 10 l).getD 1 [])), o⟩ : StM))) (ys := l) false rfl rfl rfl (K.ndeq_t h_57)) ?_
              refine K.RW.nil ?_
              refine K.thn_normal ?_
              refine K.KW.ifF rfl ?_
              refine K.KW.skip ?_
              refine K.thn_normal ?_
              refine K.KW.seq ?_
              refine K.KW.seq ?_
              -- 12 :164
              refine K.KW.region ?_
              refine K.RW.q rfl rfl (K.QR.ldN [.slice r_11 ((valsT 0 ((K.spl 10 l).getD 0 [])).length) c_12, .slice r_15 ((valsT 0 ((K.spl 10 l).getD 1 [])).length) c_16, .slice q1 o.length c1] rfl rfl (by kernel_rfl) (by kernel_rfl) (K.cells (K.cl ((hS.blk 5 rfl x_41).cell rfl) (K.cl ((hS.blk 5 rfl x_41).cell rfl) (K.cl ((hS.blk 5 rfl x_41).cell rfl) K.cl0))))) ?_
              refine K.RW.l rfl (K.OW.kcall hS [.agg #[.slice r_11 ((valsT 0 ((K.spl 10 l).getD 0 [])).length) c_12, .slice r_15 ((valsT 0 ((K.spl 10 l).getD 1 [])).length) c_16, .slice q1 o.length c1]] (rright_ok _ _ _ _ _ _ _ (valsT 0 ((K.spl 10 l).getD 1 [])) o _ (by first | omega | decide) (by first | omega | decide) (K.Own.rowE 0 (hS.ownr 1 rfl o_18) rfl (fun _ => rfl)) (K.Own.rowE p0 (hS.ownr 2 rfl x_40) rfl (fun _ => rfl))) ?_)
              rintro _ w ⟨rfl, c_58⟩
              replace hS := hS.no c_58
              cases hb_59 : (risingB (valsT 0 ((K.spl 10 l).getD 1 [])) && risingB (keysP o))
              ·
                refine K.RW.qs [.bool true] (by kernel_rfl) ?_
                refine K.RW.nil ?_
                refine K.thn_normal ?_
                refine K.KW.ifT rfl ?_
                refine K.KW.seq ?_
                -- 13 :165
                refine K.KW.region ?_
                refine K.RW.q rfl rfl (K.QR.bd [] [.slice none 0 0, .slice none 0 0, .slice none 0 0] rfl rfl (by kernel_rfl)) ?_
                refine K.RW.l rfl (K.OW.gst 7 [.slice none 0 0, .slice none 0 0, .slice none 0 0] [.slice none 0 0, .slice none 0 0, .slice none 0 0] hS hg_3 ?_)
                clear hS; intro w g_60 hg_61 hS
                replace hS : K.Sat w0 [g_13, g_17, o1, g_30, g_26, g5, g_5, g_60, fr] w := hS
                refine K.RW.qs [.int .i64 9] (by kernel_rfl) ?_
                refine K.RW.nil ?_
                refine K.thn_normal ?_
                refine K.KW.ret ?_
                refine K.thn_ret ?_
                refine ⟨.inr rfl, rfl, (.tuple #[.agg #[.slice none 0 0, .slice none 0 0, .slice none 0 0], .int .i64 9]), K.resAt (rs := [.cell 2 46, .tmp 3]) [.agg #[.slice none 0 0, .slice none 0 0, .slice none 0 0], .int .i64 9] rfl ⟨⟨_, rfl, K.lvN [.slice none 0 0, .slice none 0 0, .slice none 0 0] (by kernel_rfl) (by kernel_rfl) (K.cells (K.cl ((hS.blk 7 rfl hg_61).cell rfl) (K.cl ((hS.blk 7 rfl hg_61).cell rfl) (K.cl ((hS.blk 7 rfl hg_61).cell rfl) K.cl0))))⟩, rfl, trivial⟩, [], ?_, hS.pick [8]⟩
                exact .inr (.inr ⟨by omega, hSE ▸ (by assumption), hSE ▸ hb_59, rfl, rfl⟩)
              ·
                refine K.RW.qs [.bool false] (by kernel_rfl) ?_
                refine K.RW.nil ?_
                refine K.thn_normal ?_
                refine K.KW.ifF rfl ?_
                refine K.KW.skip ?_
                refine K.thn_normal ?_
                refine K.KW.seq ?_
                -- 14 :167
                refine K.KW.region ?_
                refine K.RW.q rfl rfl (K.QR.ldN [.slice r_11 ((valsT 0 ((K.spl 10 l).getD 0 [])).length) c_12, .slice r_15 ((valsT 0 ((K.spl 10 l).getD 1 [])).length) c_16, .slice q1 o.length c1] rfl rfl (by kernel_rfl) (by kernel_rfl) (K.cells (K.cl ((hS.blk 5 rfl x_41).cell rfl) (K.cl ((hS.blk 5 rfl x_41).cell rfl) (K.cl ((hS.blk 5 rfl x_41).cell rfl) K.cl0))))) ?_
                refine K.RW.l rfl (K.OW.gst 7 [.slice r_11 ((valsT 0 ((K.spl 10 l).getD 0 [])).length) c_12, .slice r_15 ((valsT 0 ((K.spl 10 l).getD 1 [])).length) c_16, .slice q1 o.length c1] [.slice r_11 ((valsT 0 ((K.spl 10 l).getD 0 [])).length) c_12, .slice r_15 ((valsT 0 ((K.spl 10 l).getD 1 [])).length) c_16, .slice q1 o.length c1] hS hg_3 ?_)
                clear hS; intro w g_62 hg_63 hS
                replace hS : K.Sat w0 [g_13, g_17, o1, g_30, g_26, g5, g_5, g_62, fr] w := hS
                refine K.RW.qs [.int .i64 0] (by kernel_rfl) ?_
                refine K.RW.nil ?_
                refine K.thn_normal ?_
                refine K.KW.ret ?_
                refine ⟨.inr rfl, rfl, (.tuple #[.agg #[.slice r_11 ((valsT 0 ((K.spl 10 l).getD 0 [])).length) c_12, .slice r_15 ((valsT 0 ((K.spl 10 l).getD 1 [])).length) c_16, .slice q1 o.length c1], .int .i64 0]), K.resAt (rs := [.cell 2 46, .tmp 3]) [.agg #[.slice r_11 ((valsT 0 ((K.spl 10 l).getD 0 [])).length) c_12, .slice r_15 ((valsT 0 ((K.spl 10 l).getD 1 [])).length) c_16, .slice q1 o.length c1], .int .i64 0] rfl ⟨⟨_, rfl, K.lvN [.slice r_11 ((valsT 0 ((K.spl 10 l).getD 0 [])).length) c_12, .slice r_15 ((valsT 0 ((K.spl 10 l).getD 1 [])).length) c_16, .slice q1 o.length c1] (by kernel_rfl) (by kernel_rfl) (K.cells (K.cl ((hS.blk 7 rfl hg_63).cell rfl) (K.cl ((hS.blk 7 rfl hg_63).cell rfl) (K.cl ((hS.blk 7 rfl hg_63).cell rfl) K.cl0))))⟩, rfl, trivial⟩, [g_13, g_17, o1], ?_, hS.pick [0, 1, 2, 8]⟩
                exact .inl ⟨(⟨(valsT 0 ((K.spl 10 l).getD 0 [])), (valsT 0 ((K.spl 10 l).getD 1 [])), o⟩ : StM), _, _, _, _, _, _, _, _, _, hSE, by omega, by assumption, hb_59, rfl, rfl, o_14, o_18, x_40⟩
            ·  -- no
              refine K.RW.q rfl rfl (K.QR.sNe (xs := (stR (⟨(valsT 0 ((K.spl 10 l).getD 0 [])), (valsT 0 ((K.spl 10 l).getD 1 [])), o⟩ : StM))) (ys := l) true rfl rfl rfl (K.ndeq_f h_57)) ?_
              refine K.RW.nil ?_
              refine K.thn_normal ?_
              refine K.KW.ifT rfl ?_
              refine K.KW.seq ?_
              -- 11 :162
              refine K.KW.region ?_
              refine K.RW.q rfl rfl (K.QR.bd [] [.slice none 0 0, .slice none 0 0, .slice none 0 0] rfl rfl (by kernel_rfl)) ?_
              refine K.RW.l rfl (K.OW.gst 7 [.slice none 0 0, .slice none 0 0, .slice none 0 0] [.slice none 0 0, .slice none 0 0, .slice none 0 0] hS hg_3 ?_)
              clear hS; intro w g_64 hg_65 hS
              replace hS : K.Sat w0 [g_13, g_17, o1, g_30, g_26, g5, g_5, g_64, fr] w := hS
              refine K.RW.qs [.int .i64 3] (by kernel_rfl) ?_
              refine K.RW.nil ?_
              refine K.thn_normal ?_
              refine K.KW.ret ?_
              refine K.thn_ret ?_
              refine ⟨.inr rfl, rfl, (.tuple #[.agg #[.slice none 0 0, .slice none 0 0, .slice none 0 0], .int .i64 3]), K.resAt (rs := [.cell 2 46, .tmp 3]) [.agg #[.slice none 0 0, .slice none 0 0, .slice none 0 0], .int .i64 3] rfl ⟨⟨_, rfl, K.lvN [.slice none 0 0, .slice none 0 0, .slice none 0 0] (by kernel_rfl) (by kernel_rfl) (K.cells (K.cl ((hS.blk 7 rfl hg_65).cell rfl) (K.cl ((hS.blk 7 rfl hg_65).cell rfl) (K.cl ((hS.blk 7 rfl hg_65).cell rfl) K.cl0))))⟩, rfl, trivial⟩, [], ?_, hS.pick [8]⟩
              exact .inr (.inl ⟨fun hh => absurd (hSE ▸ hh.2) (by assumption), rfl, rfl⟩)
      ·  -- first 9
        refine (K.OW.gnew 46 [.slice none 0 0, .slice none 0 0, .slice none 0 0] hS ?_)
        clear hS; intro w r_66 g_67 hg_68 hS
        refine ⟨.inl (hS.pick [2]), ?_⟩
        refine K.DW.l 7 rfl (by kernel_rfl) rfl (K.OW.gcall hS [] [0, 1, 2, 3, 4] [.string (K.sb ((K.spl 10 l).getD 1 [])), .int .i64 0] (values_ok _ ((K.spl 10 l).getD 1 []) 0 (by omega) (by omega)) ?_)
        clear hS; rintro _ _ w ⟨r_69, c_70, g_71, rfl, rfl, o_72⟩ hS
        replace hS : K.Sat w0 [g_71, g_67, g_13, g_5, g_2, fr] w := hS
        refine ⟨.inl (hS.pick [3]), ?_⟩
        refine K.DW.l 8 rfl (by kernel_rfl) rfl (K.OW.q rfl (K.QR.bd [(0, .slice r_11 ((valsT 0 ((K.spl 10 l).getD 0 [])).length) c_12), (1, .slice r_69 ((valsT 0 ((K.spl 10 l).getD 1 [])).length) c_70)] [.slice r_11 ((valsT 0 ((K.spl 10 l).getD 0 [])).length) c_12, .slice r_69 ((valsT 0 ((K.spl 10 l).getD 1 [])).length) c_70, .slice none 0 0] rfl rfl (by kernel_rfl)) ?_)
        refine ⟨.inl (hS.pick [3]), ?_⟩
        refine K.DW.l 10 rfl (by kernel_rfl) rfl (K.OW.gst 1 [.slice r_11 ((valsT 0 ((K.spl 10 l).getD 0 [])).length) c_12, .slice r_69 ((valsT 0 ((K.spl 10 l).getD 1 [])).length) c_70, .slice none 0 0] [.slice r_11 ((valsT 0 ((K.spl 10 l).getD 0 [])).length) c_12, .slice r_69 ((valsT 0 ((K.spl 10 l).getD 1 [])).length) c_70, .slice none 0 0] hS hg_68 ?_)
        clear hS; intro w g_73 hg_74 hS
        replace hS : K.Sat w0 [g_71, g_73, g_13, g_5, g_2, fr] w := hS
        refine ⟨.inr (by kernel_rfl), ?_⟩
        refine K.DW.done (by kernel_rfl) ?_
        refine K.thn_normal ?_
        refine K.KW.seq ?_
        -- 5 :157
        refine K.KW.gdrawn [3] hS (by kernel_rfl) ?_
        clear hS; intro w hS
        refine K.DW.q 0 (by kernel_rfl) rfl rfl (by kernel_rfl) rfl (fun w hS => K.QR.k (v := .slice (some ⟨b_9, 0, none⟩) ((K.spl 10 l).length) k_6) (by kernel_rfl)) (hS.pick [3]) ?_
        refine K.DW.q 1 (by kernel_rfl) rfl rfl (by kernel_rfl) rfl (fun w hS => K.QR.ix 2 1 rfl rfl rfl Tryd.underlying68 (by kernel_rfl) (by omega) (by first | (simp; done) | omega | (simp; omega))) (hS.pick [3]) ?_
        refine K.DW.q 2 (by kernel_rfl) rfl rfl (by kernel_rfl) rfl (fun w hS => K.QR.ld1 (v := .string (K.sb ((K.spl 10 l).getD 2 []))) rfl rfl (by kernel_rfl) (K.Own.atS (c := K.cStr) (d := []) (fun _ => rfl) (hS.ownr 0 rfl o_7) rfl 2 (by omega))) (hS.pick [3]) ?_
        refine K.DW.q 4 (by kernel_rfl) rfl rfl (by kernel_rfl) rfl (fun w hS => K.QR.k (v := .slice (some ⟨b_9, 0, none⟩) ((K.spl 10 l).length) k_6) (by kernel_rfl)) (hS.pick [3]) ?_
        refine K.DW.q 5 (by kernel_rfl) rfl rfl (by kernel_rfl) rfl (fun w hS => K.QR.ix 2 1 rfl rfl rfl Tryd.underlying68 (by kernel_rfl) (by omega) (by first | (simp; done) | omega | (simp; omega))) (hS.pick [3]) ?_
        refine K.DW.q 6 (by kernel_rfl) rfl rfl (by kernel_rfl) rfl (fun w hS => K.QR.ld1 (v := .string (K.sb ((K.spl 10 l).getD 2 []))) rfl rfl (by kernel_rfl) (K.Own.atS (c := K.cStr) (d := []) (fun _ => rfl) (hS.ownr 0 rfl o_7) rfl 2 (by omega))) (hS.pick [3]) ?_
        refine K.DW.l 3 rfl (by kernel_rfl) rfl (K.OW.gcall hS [] [0, 1, 2, 3, 4, 5] [.string (K.sb ((K.spl 10 l).getD 2 [])), .int .i64 0] (values_ok _ ((K.spl 10 l).getD 2 []) 0 (by omega) (by omega)) ?_)
        clear hS; rintro _ _ w ⟨r_75, c_76, g_77, rfl, rfl, o_78⟩ hS
        replace hS : K.Sat w0 [g_77, g_71, g_73, g_13, g_5, g_2, fr] w := hS
        refine ⟨.inl (hS.pick [4]), ?_⟩
        refine K.DW.l 7 rfl (by kernel_rfl) rfl (K.OW.gcall hS [] [0, 1, 2, 3, 4, 5, 6] [.string (K.sb ((K.spl 10 l).getD 2 [])), .int .i64 1] (values_ok _ ((K.spl 10 l).getD 2 []) 1 (by omega) (by omega)) ?_)
        clear hS; rintro _ _ w ⟨r_79, c_80, g_81, rfl, rfl, o_82⟩ hS
        replace hS : K.Sat w0 [g_81, g_77, g_71, g_73, g_13, g_5, g_2, fr] w := hS
        refine ⟨.inl (hS.pick [5]), ?_⟩
        refine K.DW.l 8 rfl (by kernel_rfl) rfl (K.OW.q rfl (K.QR.k (v := .slice r_75 ((valsT 0 ((K.spl 10 l).getD 2 [])).length) c_76) (by kernel_rfl)) ?_)
        refine ⟨.inl (hS.pick [5]), ?_⟩
        refine K.DW.l 9 rfl (by kernel_rfl) rfl (K.OW.q rfl (K.QR.k (v := .slice r_79 ((valsT 1 ((K.spl 10 l).getD 2 [])).length) c_80) (by kernel_rfl)) ?_)
        refine ⟨.inl (hS.pick [5]), ?_⟩
        refine K.DW.done (by kernel_rfl) ?_
        refine K.thn_normal ?_
        refine K.KW.seq ?_
        refine K.KW.seq ?_
        -- 6 :158
        refine K.KW.region ?_
        refine K.RW.qs [.int .i64 0] (by kernel_rfl) ?_
        refine K.RW.nil ?_
        refine K.thn_normal ?_
        refine K.KW.block ?_
        obtain ⟨z_83, hz_84⟩ : ∃ z : K.Cs, z = [] := ⟨_, rfl⟩
        replace hS : K.Sat w0 [z_83, g_81, g_77, g_71, g_73, g_13, g_5, g_2, fr] w := hS.of (by simp [hz_84])
        have o_85 : K.OwnG z_83 92 2 none 0 0 [] := by rw [hz_84]; exact K.OwnG.nil _ _
        refine K.KW.loop (fun m_ F_ w_ => ∃ (j : Nat) (o : List PairM) (q1 : Option Addr) (c1 : Nat) (o1 : K.Cs) (g5 : K.Cs), m_ = (valsT 0 ((K.spl 10 l).getD 2 [])).length - j ∧ K.Sl F_ [(0, .string (K.sb l)), (2, .pointer (some ⟨r_1, 0, none⟩)), (3, .int .i64 0), (5, .pointer (some ⟨r_66, 0, none⟩)), (6, .slice r_75 ((valsT 0 ((K.spl 10 l).getD 2 [])).length) c_76), (7, .slice r_79 ((valsT 1 ((K.spl 10 l).getD 2 [])).length) c_80), (8, .int .i64 ((j : Nat) : Int)), (62, undef)] ∧ j ≤ (valsT 0 ((K.spl 10 l).getD 2 [])).length ∧ o = zipP ((valsT 0 ((K.spl 10 l).getD 2 [])).take j) ((valsT 1 ((K.spl 10 l).getD 2 [])).take j) ∧ o.length ≤ j ∧ K.OwnG o1 92 2 q1 o.length c1 ((o).flatMap cPair) ∧ g5 = [K.pt r_66 46 [.slice r_11 ((valsT 0 ((K.spl 10 l).getD 0 [])).length) c_12, .slice r_69 ((valsT 0 ((K.spl 10 l).getD 1 [])).length) c_70, .slice q1 o.length c1]] ∧ K.Sat w0 [o1, g_81, g_77, g_71, g5, g_13, g_5, g_2, fr] w_) ((fun (j : Nat) (o : List PairM) (q1 : Option Addr) (c1 : Nat) => (valsT 0 ((K.spl 10 l).getD 2 [])).length - j) 0 [] none 0) ?_ ?_
        · -- begins
          exact ⟨0, [], none, 0, z_83, g_73, rfl, ⟨by rfl, by rfl, by rfl, by rfl, by rfl, by rfl, by rfl, by rfl, trivial⟩, (by omega), (rfl), (by exact Nat.le_refl 0), o_85, hg_74, hS.pick [0, 1, 2, 3, 4, 5, 6, 7, 8]⟩
        · -- a round
          clear hS
          intro m_86 F_87 w hI
          obtain ⟨j, o, q1, c1, o1, g5, rfl, sl_88, p_89, ho, p_90, x_91, x_92, hS⟩ := hI
          rw [← K.Sl.puts sl_88]; clear sl_88
          refine K.KW.seq ?_
          refine K.KW.seq ?_
          -- 7 :158
          refine K.KW.region ?_
          refine K.RW.qs [.int .i64 ((j : Nat) : Int), .slice r_75 ((valsT 0 ((K.spl 10 l).getD 2 [])).length) c_76] (by kernel_rfl) ?_
          refine K.RW.q rfl rfl (K.QR.len (P := Tryd.prog) rfl rfl Tryd.underlying43) ?_
          by_cases h_93 : (((j : Nat) : Int) : Int) < ((((valsT 0 ((K.spl 10 l).getD 2 [])).length : Nat) : Int) : Int)
          ·  -- yes
            refine K.RW.q rfl rfl (K.QR.nice (v := .bool (decide ((((j : Nat) : Int) : Int) < ((((valsT 0 ((K.spl 10 l).getD 2 [])).length : Nat) : Int) : Int)))) (by kernel_rfl) (congrArg Value.bool (decide_eq_true h_93))) ?_
            refine K.RW.nil ?_
            refine K.thn_normal ?_
            refine K.KW.ifT rfl ?_
            refine K.KW.skip ?_
            refine K.thn_normal ?_
            refine K.KW.seq ?_
            refine K.KW.block ?_
            -- 9 :159
            obtain ⟨b_94, rfl⟩ := o_78.some_ (by have := o_78.le; omega)
            obtain ⟨b_96, rfl⟩ := o_82.some_ (by have := o_82.le; omega)
            refine K.KW.gdrawn [2, 4] hS (by kernel_rfl) ?_
            clear hS; intro w hS
            refine K.DW.q 0 (by kernel_rfl) rfl rfl (by kernel_rfl) rfl (fun w hS => K.QR.k (v := .pointer (some ⟨r_66, 2, none⟩)) (by kernel_rfl)) (hS.pick [2, 4]) ?_
            refine K.DW.q 1 (by kernel_rfl) rfl rfl (by kernel_rfl) rfl (fun w hS => K.QR.ld1 (v := .slice q1 o.length c1) rfl rfl (by kernel_rfl) ((hS.blk 1 rfl x_92).cell rfl)) (hS.pick [2, 4]) ?_
            refine K.DW.q 2 (by kernel_rfl) rfl rfl (by kernel_rfl) rfl (fun w hS => K.QR.k (v := .slice (some ⟨b_94, 0, none⟩) ((valsT 0 ((K.spl 10 l).getD 2 [])).length) c_76) (by kernel_rfl)) (hS.pick [2, 4]) ?_
            refine K.DW.q 3 (by kernel_rfl) rfl rfl (by kernel_rfl) rfl (fun w hS => K.QR.k (v := .int .i64 ((j : Nat) : Int)) (by kernel_rfl)) (hS.pick [2, 4]) ?_
            refine K.DW.q 4 (by kernel_rfl) rfl rfl (by kernel_rfl) rfl (fun w hS => K.QR.ix j 1 rfl rfl rfl Tryd.underlying43 (by kernel_rfl) (by omega) (by first | (simp; done) | omega | (simp; omega))) (hS.pick [2, 4]) ?_
            refine K.DW.q 5 (by kernel_rfl) rfl rfl (by kernel_rfl) rfl (fun w hS => K.QR.ld1 (v := .int .u32 ((valsT 0 ((K.spl 10 l).getD 2 [])).getD j 0)) rfl rfl (by kernel_rfl) (K.Own.atS (c := cU32) (d := 0) (fun _ => rfl) (hS.ownr 0 rfl o_78) rfl j (by omega))) (hS.pick [2, 4]) ?_
            refine K.DW.q 6 (by kernel_rfl) rfl rfl (by kernel_rfl) rfl (fun w hS => K.QR.k (v := .slice (some ⟨b_96, 0, none⟩) ((valsT 1 ((K.spl 10 l).getD 2 [])).length) c_80) (by kernel_rfl)) (hS.pick [2, 4]) ?_
            refine K.DW.l 7 rfl (by kernel_rfl) rfl (K.OW.q rfl (K.QR.k (v := .int .i64 ((j : Nat) : Int)) (by kernel_rfl)) ?_)
            refine ⟨.inl (hS.pick [2, 4]), ?_⟩
            refine K.DW.l 8 rfl (by kernel_rfl) rfl (K.OW.q rfl (K.QR.ix j 1 rfl rfl rfl Tryd.underlying43 (by kernel_rfl) (by omega) (by first | (simp; done) | omega | (simp; omega))) ?_)
            refine ⟨.inl (hS.pick [2, 4]), ?_⟩
            refine K.DW.l 9 rfl (by kernel_rfl) rfl (K.OW.q rfl (K.QR.ld1 (v := .int .u32 ((valsT 1 ((K.spl 10 l).getD 2 [])).getD j 0)) rfl rfl (by kernel_rfl) (K.Own.atS (c := cU32) (d := 0) (fun _ => rfl) (hS.ownr 1 rfl o_82) rfl j (by omega))) ?_)
            refine ⟨.inl (hS.pick [2, 4]), ?_⟩
            refine K.DW.l 10 rfl (by kernel_rfl) rfl (K.OW.q rfl (K.QR.bd [(0, .int .u32 ((valsT 0 ((K.spl 10 l).getD 2 [])).getD j 0)), (1, .int .u32 ((valsT 1 ((K.spl 10 l).getD 2 [])).getD j 0))] [.int .u32 ((valsT 0 ((K.spl 10 l).getD 2 [])).getD j 0), .int .u32 ((valsT 1 ((K.spl 10 l).getD 2 [])).getD j 0)] rfl rfl (by kernel_rfl)) ?_)
            refine ⟨.inl (hS.pick [2, 4]), ?_⟩
            refine K.DW.l 11 rfl (by kernel_rfl) rfl (K.OW.gbs [(0, .agg #[.int .u32 ((valsT 0 ((K.spl 10 l).getD 2 [])).getD j 0), .int .u32 ((valsT 1 ((K.spl 10 l).getD 2 [])).getD j 0)])] [.int .u32 ((valsT 0 ((K.spl 10 l).getD 2 [])).getD j 0), .int .u32 ((valsT 1 ((K.spl 10 l).getD 2 [])).getD j 0)] hS (fun w => K.bs_run (P := Tryd.prog) w 44 92 1 _ _ Tryd.underlying44 (by kernel_rfl)) ?_)
            clear hS; intro w r_98 g_99 hg_100 hS
            refine ⟨.inl (hS.pick [3, 5]), ?_⟩
            refine K.DW.l 12 rfl (by kernel_rfl) rfl (K.OW.gapp (P := Tryd.prog) (xs := (o).flatMap cPair) (z := .agg #[.int .u32 0, .int .u32 0]) (size := 2) (bytes := 8) 1 [.int .u32 ((valsT 0 ((K.spl 10 l).getD 2 [])).getD j 0), .int .u32 ((valsT 1 ((K.spl 10 l).getD 2 [])).getD j 0)] hS x_91 ?_ (fun j u hj => (by rw [Nat.zero_add]; exact (hS.blk 0 rfl hg_100).cell hj)) (K.one_cells (by rfl)) (by rfl) Tryd.underlying44 (by kernel_rfl) rfl (by decide) (by unfold maxLen; omega) (by omega))
            clear hS; intro a_101 cap_102 w l_103 o_104 hS
            have ln_105 : ((o ++ [(⟨(valsT 0 ((K.spl 10 l).getD 2 [])).getD j 0, (valsT 1 ((K.spl 10 l).getD 2 [])).getD j 0⟩ : PairM)])).length = o.length + 1 := by rw [List.length_append]; rfl
            have o_104c := K.OwnG.cast (xs' := ((o ++ [(⟨(valsT 0 ((K.spl 10 l).getD 2 [])).getD j 0, (valsT 1 ((K.spl 10 l).getD 2 [])).getD j 0⟩ : PairM)])).flatMap cPair) o_104 rfl (K.fl_snoc cPair o _ rfl)
            replace hS : K.Sat w0 [g_99, l_103, g_81, g_77, g_71, g5, g_13, g_5, g_2, fr] w := hS
            refine ⟨.inl (hS.pick [3, 5]), ?_⟩
            refine K.DW.l 13 rfl (by kernel_rfl) rfl (K.OW.q rfl (K.QR.k (v := .pointer (some ⟨r_66, 2, none⟩)) (by kernel_rfl)) ?_)
            refine ⟨.inl (hS.pick [3, 5]), ?_⟩
            refine K.DW.l 14 rfl (by kernel_rfl) rfl (K.OW.gst 5 [.slice a_101 (o.length + 1) cap_102] [.slice r_11 ((valsT 0 ((K.spl 10 l).getD 0 [])).length) c_12, .slice r_69 ((valsT 0 ((K.spl 10 l).getD 1 [])).length) c_70, .slice a_101 (o.length + 1) cap_102] hS x_92 ?_)
            clear hS; intro w g_106 hg_107 hS
            replace hS : K.Sat w0 [g_99, l_103, g_81, g_77, g_71, g_106, g_13, g_5, g_2, fr] w := hS
            refine ⟨.inr (by kernel_rfl), ?_⟩
            refine K.DW.done (by kernel_rfl) ?_
            refine K.blk_normal ?_
            refine K.thn_normal ?_
            -- 8 :158
            refine K.KW.region ?_
            refine K.RW.qs [.int .i64 ((j : Nat) : Int)] (by kernel_rfl) ?_
            refine K.RW.q rfl rfl (K.QR.n64 ((((j : Nat) : Int) : Int) + (1 : Int)) ((j + 1 : Nat) : Int) (by kernel_rfl) (by omega)) ?_
            refine K.RW.qs [.int .i64 ((j + 1 : Nat) : Int)] (by kernel_rfl) ?_
            refine K.RW.nil ?_
            refine K.thn_normal ?_
            refine ⟨_, ?_, j + 1, (o ++ [(⟨(valsT 0 ((K.spl 10 l).getD 2 [])).getD j 0, (valsT 1 ((K.spl 10 l).getD 2 [])).getD j 0⟩ : PairM)]), a_101, cap_102, l_103, g_106, rfl, ⟨by rfl, by rfl, by rfl, by rfl, by rfl, by rfl, by rfl, by rfl, trivial⟩, (by omega), (by rw [ho, zipP_next (by omega) (by omega)]), (by first | omega | (rw [List.length_append]; simp; omega)), (K.OwnG.cast o_104c (by first | rfl | (rw [List.length_append]; rfl)) rfl), (by have hq : o.length + 1 = ((o ++ [(⟨(valsT 0 ((K.spl 10 l).getD 2 [])).getD j 0, (valsT 1 ((K.spl 10 l).getD 2 [])).getD j 0⟩ : PairM)])).length := (by first | rfl | (rw [List.length_append]; rfl)); rw [← hq]; exact hg_107), hS.pick [1, 2, 3, 4, 5, 6, 7, 8, 9]⟩
            omega
          ·  -- no
            refine K.RW.q rfl rfl (K.QR.nice (v := .bool (decide ((((j : Nat) : Int) : Int) < ((((valsT 0 ((K.spl 10 l).getD 2 [])).length : Nat) : Int) : Int)))) (by kernel_rfl) (congrArg Value.bool (decide_eq_false h_93))) ?_
            refine K.RW.nil ?_
            refine K.thn_normal ?_
            refine K.KW.ifF rfl ?_
            refine K.KW.exit ?_
            refine K.thn_exit ?_
            refine K.thn_exit ?_
            refine K.blk_hit ?_
            refine K.thn_normal ?_
            refine K.KW.seq ?_
            refine K.KW.seq ?_
            -- 10 :161
            have hSE : (⟨valsT 0 ((K.spl 10 l).getD 0 []), valsT 0 ((K.spl 10 l).getD 1 []), o⟩ : StM) = stP l := by unfold stP; rw [ho, List.take_of_length_le (by omega), List.take_of_length_le (by omega)]
            have hol : o.length ≤ 1000 := by have := (stP_few hl).2.2; rw [← hSE] at this; exact this
            refine K.KW.region ?_
            refine K.RW.q rfl rfl (K.QR.ldN [.slice r_11 ((valsT 0 ((K.spl 10 l).getD 0 [])).length) c_12, .slice r_69 ((valsT 0 ((K.spl 10 l).getD 1 [])).length) c_70, .slice q1 o.length c1] rfl rfl (by kernel_rfl) (by kernel_rfl) (K.cells (K.cl ((hS.blk 4 rfl x_92).cell rfl) (K.cl ((hS.blk 4 rfl x_92).cell rfl) (K.cl ((hS.blk 4 rfl x_92).cell rfl) K.cl0))))) ?_
            refine K.RW.l rfl (K.OW.gcall hS [5, 3, 0] [1, 2, 4, 6, 7, 8] [.agg #[.slice r_11 ((valsT 0 ((K.spl 10 l).getD 0 [])).length) c_12, .slice r_69 ((valsT 0 ((K.spl 10 l).getD 1 [])).length) c_70, .slice q1 o.length c1]] (rst_ok _ _ _ _ _ _ _ (⟨(valsT 0 ((K.spl 10 l).getD 0 [])), (valsT 0 ((K.spl 10 l).getD 1 [])), o⟩ : StM) (hSE ▸ stP_fits l) (hSE ▸ stP_few hl) _ (fun w h => K.RowE.len (K.Own.rowE 0 (h.ownr 0 rfl o_14) rfl (fun _ => rfl)) rfl) _ (fun w h => K.RowE.len (K.Own.rowE 0 (h.ownr 0 rfl o_72) rfl (fun _ => rfl)) rfl) _ (fun w h => K.RowE.len (K.Own.rowE p0 (h.ownr 0 rfl x_91) rfl (fun _ => rfl)) rfl)) ?_)
            clear hS; rintro _ _ w ⟨rfl, rfl⟩ hS
            replace hS : K.Sat w0 [g_13, g_71, o1, g_81, g_77, g5, g_5, g_2, fr] w := hS
            refine K.RW.qs [.string (K.sb l)] (by kernel_rfl) ?_
            by_cases h_108 : (stR (⟨(valsT 0 ((K.spl 10 l).getD 0 [])), (valsT 0 ((K.spl 10 l).getD 1 [])), o⟩ : StM)) = l
            ·  -- yes
              refine K.RW.q rfl rfl (K.QR.sNe (xs := (stR (⟨(valsT 0 ((K.spl 10 l).getD 0 [])), (valsT 0 ((K.spl 10 l).getD 1 [])), o⟩ : StM))) (ys := l) false rfl rfl rfl (K.ndeq_t h_108)) ?_
              refine K.RW.nil ?_
              refine K.thn_normal ?_
              refine K.KW.ifF rfl ?_
              refine K.KW.skip ?_
              refine K.thn_normal ?_
              refine K.KW.seq ?_
              refine K.KW.seq ?_
              -- 12 :164
              refine K.KW.region ?_
              refine K.RW.q rfl rfl (K.QR.ldN [.slice r_11 ((valsT 0 ((K.spl 10 l).getD 0 [])).length) c_12, .slice r_69 ((valsT 0 ((K.spl 10 l).getD 1 [])).length) c_70, .slice q1 o.length c1] rfl rfl (by kernel_rfl) (by kernel_rfl) (K.cells (K.cl ((hS.blk 5 rfl x_92).cell rfl) (K.cl ((hS.blk 5 rfl x_92).cell rfl) (K.cl ((hS.blk 5 rfl x_92).cell rfl) K.cl0))))) ?_
              refine K.RW.l rfl (K.OW.kcall hS [.agg #[.slice r_11 ((valsT 0 ((K.spl 10 l).getD 0 [])).length) c_12, .slice r_69 ((valsT 0 ((K.spl 10 l).getD 1 [])).length) c_70, .slice q1 o.length c1]] (rright_ok _ _ _ _ _ _ _ (valsT 0 ((K.spl 10 l).getD 1 [])) o _ (by first | omega | decide) (by first | omega | decide) (K.Own.rowE 0 (hS.ownr 1 rfl o_72) rfl (fun _ => rfl)) (K.Own.rowE p0 (hS.ownr 2 rfl x_91) rfl (fun _ => rfl))) ?_)
              rintro _ w ⟨rfl, c_109⟩
              replace hS := hS.no c_109
              cases hb_110 : (risingB (valsT 0 ((K.spl 10 l).getD 1 [])) && risingB (keysP o))
              ·
                refine K.RW.qs [.bool true] (by kernel_rfl) ?_
                refine K.RW.nil ?_
                refine K.thn_normal ?_
                refine K.KW.ifT rfl ?_
                refine K.KW.seq ?_
                -- 13 :165
                refine K.KW.region ?_
                refine K.RW.q rfl rfl (K.QR.bd [] [.slice none 0 0, .slice none 0 0, .slice none 0 0] rfl rfl (by kernel_rfl)) ?_
                refine K.RW.l rfl (K.OW.gst 7 [.slice none 0 0, .slice none 0 0, .slice none 0 0] [.slice none 0 0, .slice none 0 0, .slice none 0 0] hS hg_3 ?_)
                clear hS; intro w g_111 hg_112 hS
                replace hS : K.Sat w0 [g_13, g_71, o1, g_81, g_77, g5, g_5, g_111, fr] w := hS
                refine K.RW.qs [.int .i64 9] (by kernel_rfl) ?_
                refine K.RW.nil ?_
                refine K.thn_normal ?_
                refine K.KW.ret ?_
                refine K.thn_ret ?_
                refine ⟨.inr rfl, rfl, (.tuple #[.agg #[.slice none 0 0, .slice none 0 0, .slice none 0 0], .int .i64 9]), K.resAt (rs := [.cell 2 46, .tmp 3]) [.agg #[.slice none 0 0, .slice none 0 0, .slice none 0 0], .int .i64 9] rfl ⟨⟨_, rfl, K.lvN [.slice none 0 0, .slice none 0 0, .slice none 0 0] (by kernel_rfl) (by kernel_rfl) (K.cells (K.cl ((hS.blk 7 rfl hg_112).cell rfl) (K.cl ((hS.blk 7 rfl hg_112).cell rfl) (K.cl ((hS.blk 7 rfl hg_112).cell rfl) K.cl0))))⟩, rfl, trivial⟩, [], ?_, hS.pick [8]⟩
                exact .inr (.inr ⟨by omega, hSE ▸ (by assumption), hSE ▸ hb_110, rfl, rfl⟩)
              ·
                refine K.RW.qs [.bool false] (by kernel_rfl) ?_
                refine K.RW.nil ?_
                refine K.thn_normal ?_
                refine K.KW.ifF rfl ?_
                refine K.KW.skip ?_
                refine K.thn_normal ?_
                refine K.KW.seq ?_
                -- 14 :167
                refine K.KW.region ?_
                refine K.RW.q rfl rfl (K.QR.ldN [.slice r_11 ((valsT 0 ((K.spl 10 l).getD 0 [])).length) c_12, .slice r_69 ((valsT 0 ((K.spl 10 l).getD 1 [])).length) c_70, .slice q1 o.length c1] rfl rfl (by kernel_rfl) (by kernel_rfl) (K.cells (K.cl ((hS.blk 5 rfl x_92).cell rfl) (K.cl ((hS.blk 5 rfl x_92).cell rfl) (K.cl ((hS.blk 5 rfl x_92).cell rfl) K.cl0))))) ?_
                refine K.RW.l rfl (K.OW.gst 7 [.slice r_11 ((valsT 0 ((K.spl 10 l).getD 0 [])).length) c_12, .slice r_69 ((valsT 0 ((K.spl 10 l).getD 1 [])).length) c_70, .slice q1 o.length c1] [.slice r_11 ((valsT 0 ((K.spl 10 l).getD 0 [])).length) c_12, .slice r_69 ((valsT 0 ((K.spl 10 l).getD 1 [])).length) c_70, .slice q1 o.length c1] hS hg_3 ?_)
                clear hS; intro w g_113 hg_114 hS
                replace hS : K.Sat w0 [g_13, g_71, o1, g_81, g_77, g5, g_5, g_113, fr] w := hS
                refine K.RW.qs [.int .i64 0] (by kernel_rfl) ?_
                refine K.RW.nil ?_
                refine K.thn_normal ?_
                refine K.KW.ret ?_
                refine ⟨.inr rfl, rfl, (.tuple #[.agg #[.slice r_11 ((valsT 0 ((K.spl 10 l).getD 0 [])).length) c_12, .slice r_69 ((valsT 0 ((K.spl 10 l).getD 1 [])).length) c_70, .slice q1 o.length c1], .int .i64 0]), K.resAt (rs := [.cell 2 46, .tmp 3]) [.agg #[.slice r_11 ((valsT 0 ((K.spl 10 l).getD 0 [])).length) c_12, .slice r_69 ((valsT 0 ((K.spl 10 l).getD 1 [])).length) c_70, .slice q1 o.length c1], .int .i64 0] rfl ⟨⟨_, rfl, K.lvN [.slice r_11 ((valsT 0 ((K.spl 10 l).getD 0 [])).length) c_12, .slice r_69 ((valsT 0 ((K.spl 10 l).getD 1 [])).length) c_70, .slice q1 o.length c1] (by kernel_rfl) (by kernel_rfl) (K.cells (K.cl ((hS.blk 7 rfl hg_114).cell rfl) (K.cl ((hS.blk 7 rfl hg_114).cell rfl) (K.cl ((hS.blk 7 rfl hg_114).cell rfl) K.cl0))))⟩, rfl, trivial⟩, [g_13, g_71, o1], ?_, hS.pick [0, 1, 2, 8]⟩
                exact .inl ⟨(⟨(valsT 0 ((K.spl 10 l).getD 0 [])), (valsT 0 ((K.spl 10 l).getD 1 [])), o⟩ : StM), _, _, _, _, _, _, _, _, _, hSE, by omega, by assumption, hb_110, rfl, rfl, o_14, o_72, x_91⟩
            ·  -- no
              refine K.RW.q rfl rfl (K.QR.sNe (xs := (stR (⟨(valsT 0 ((K.spl 10 l).getD 0 [])), (valsT 0 ((K.spl 10 l).getD 1 [])), o⟩ : StM))) (ys := l) true rfl rfl rfl (K.ndeq_f h_108)) ?_
              refine K.RW.nil ?_
              refine K.thn_normal ?_
              refine K.KW.ifT rfl ?_
              refine K.KW.seq ?_
              -- 11 :162
              refine K.KW.region ?_
              refine K.RW.q rfl rfl (K.QR.bd [] [.slice none 0 0, .slice none 0 0, .slice none 0 0] rfl rfl (by kernel_rfl)) ?_
              refine K.RW.l rfl (K.OW.gst 7 [.slice none 0 0, .slice none 0 0, .slice none 0 0] [.slice none 0 0, .slice none 0 0, .slice none 0 0] hS hg_3 ?_)
              clear hS; intro w g_115 hg_116 hS
              replace hS : K.Sat w0 [g_13, g_71, o1, g_81, g_77, g5, g_5, g_115, fr] w := hS
              refine K.RW.qs [.int .i64 3] (by kernel_rfl) ?_
              refine K.RW.nil ?_
              refine K.thn_normal ?_
              refine K.KW.ret ?_
              refine K.thn_ret ?_
              refine ⟨.inr rfl, rfl, (.tuple #[.agg #[.slice none 0 0, .slice none 0 0, .slice none 0 0], .int .i64 3]), K.resAt (rs := [.cell 2 46, .tmp 3]) [.agg #[.slice none 0 0, .slice none 0 0, .slice none 0 0], .int .i64 3] rfl ⟨⟨_, rfl, K.lvN [.slice none 0 0, .slice none 0 0, .slice none 0 0] (by kernel_rfl) (by kernel_rfl) (K.cells (K.cl ((hS.blk 7 rfl hg_116).cell rfl) (K.cl ((hS.blk 7 rfl hg_116).cell rfl) (K.cl ((hS.blk 7 rfl hg_116).cell rfl) K.cl0))))⟩, rfl, trivial⟩, [], ?_, hS.pick [8]⟩
              exact .inr (.inl ⟨fun hh => absurd (hSE ▸ hh.2) (by assumption), rfl, rfl⟩)
    ·  -- first 9
      refine (K.OW.gnew 46 [.slice none 0 0, .slice none 0 0, .slice none 0 0] hS ?_)
      clear hS; intro w r_117 g_118 hg_119 hS
      refine ⟨.inl (hS.pick [1]), ?_⟩
      refine K.DW.l 3 rfl (by kernel_rfl) rfl (K.OW.gcall hS [] [0, 1, 2, 3] [.string (K.sb ((K.spl 10 l).getD 0 [])), .int .i64 0] (values_ok _ ((K.spl 10 l).getD 0 []) 0 (by omega) (by omega)) ?_)
      clear hS; rintro _ _ w ⟨r_120, c_121, g_122, rfl, rfl, o_123⟩ hS
      replace hS : K.Sat w0 [g_122, g_118, g_5, g_2, fr] w := hS
      refine ⟨.inl (hS.pick [2]), ?_⟩
      refine K.DW.l 7 rfl (by kernel_rfl) rfl (K.OW.gcall hS [] [0, 1, 2, 3, 4] [.string (K.sb ((K.spl 10 l).getD 1 [])), .int .i64 0] (values_ok _ ((K.spl 10 l).getD 1 []) 0 (by omega) (by omega)) ?_)
      clear hS; rintro _ _ w ⟨r_124, c_125, g_126, rfl, rfl, o_127⟩ hS
      replace hS : K.Sat w0 [g_126, g_122, g_118, g_5, g_2, fr] w := hS
      refine ⟨.inl (hS.pick [3]), ?_⟩
      refine K.DW.l 8 rfl (by kernel_rfl) rfl (K.OW.q rfl (K.QR.bd [(0, .slice r_120 ((valsT 0 ((K.spl 10 l).getD 0 [])).length) c_121), (1, .slice r_124 ((valsT 0 ((K.spl 10 l).getD 1 [])).length) c_125)] [.slice r_120 ((valsT 0 ((K.spl 10 l).getD 0 [])).length) c_121, .slice r_124 ((valsT 0 ((K.spl 10 l).getD 1 [])).length) c_125, .slice none 0 0] rfl rfl (by kernel_rfl)) ?_)
      refine ⟨.inl (hS.pick [3]), ?_⟩
      refine K.DW.l 10 rfl (by kernel_rfl) rfl (K.OW.gst 2 [.slice r_120 ((valsT 0 ((K.spl 10 l).getD 0 [])).length) c_121, .slice r_124 ((valsT 0 ((K.spl 10 l).getD 1 [])).length) c_125, .slice none 0 0] [.slice r_120 ((valsT 0 ((K.spl 10 l).getD 0 [])).length) c_121, .slice r_124 ((valsT 0 ((K.spl 10 l).getD 1 [])).length) c_125, .slice none 0 0] hS hg_119 ?_)
      clear hS; intro w g_128 hg_129 hS
      replace hS : K.Sat w0 [g_126, g_122, g_128, g_5, g_2, fr] w := hS
      refine ⟨.inr (by kernel_rfl), ?_⟩
      refine K.DW.done (by kernel_rfl) ?_
      refine K.thn_normal ?_
      refine K.KW.seq ?_
      -- 5 :157
      refine K.KW.gdrawn [3] hS (by kernel_rfl) ?_
      clear hS; intro w hS
      refine K.DW.q 0 (by kernel_rfl) rfl rfl (by kernel_rfl) rfl (fun w hS => K.QR.k (v := .slice (some ⟨b_9, 0, none⟩) ((K.spl 10 l).length) k_6) (by kernel_rfl)) (hS.pick [3]) ?_
      refine K.DW.q 1 (by kernel_rfl) rfl rfl (by kernel_rfl) rfl (fun w hS => K.QR.ix 2 1 rfl rfl rfl Tryd.underlying68 (by kernel_rfl) (by omega) (by first | (simp; done) | omega | (simp; omega))) (hS.pick [3]) ?_
      refine K.DW.q 2 (by kernel_rfl) rfl rfl (by kernel_rfl) rfl (fun w hS => K.QR.ld1 (v := .string (K.sb ((K.spl 10 l).getD 2 []))) rfl rfl (by kernel_rfl) (K.Own.atS (c := K.cStr) (d := []) (fun _ => rfl) (hS.ownr 0 rfl o_7) rfl 2 (by omega))) (hS.pick [3]) ?_
      refine K.DW.q 4 (by kernel_rfl) rfl rfl (by kernel_rfl) rfl (fun w hS => K.QR.k (v := .slice (some ⟨b_9, 0, none⟩) ((K.spl 10 l).length) k_6) (by kernel_rfl)) (hS.pick [3]) ?_
      refine K.DW.q 5 (by kernel_rfl) rfl rfl (by kernel_rfl) rfl (fun w hS => K.QR.ix 2 1 rfl rfl rfl Tryd.underlying68 (by kernel_rfl) (by omega) (by first | (simp; done) | omega | (simp; omega))) (hS.pick [3]) ?_
      refine K.DW.q 6 (by kernel_rfl) rfl rfl (by kernel_rfl) rfl (fun w hS => K.QR.ld1 (v := .string (K.sb ((K.spl 10 l).getD 2 []))) rfl rfl (by kernel_rfl) (K.Own.atS (c := K.cStr) (d := []) (fun _ => rfl) (hS.ownr 0 rfl o_7) rfl 2 (by omega))) (hS.pick [3]) ?_
      refine K.DW.l 3 rfl (by kernel_rfl) rfl (K.OW.gcall hS [] [0, 1, 2, 3, 4, 5] [.string (K.sb ((K.spl 10 l).getD 2 [])), .int .i64 0] (values_ok _ ((K.spl 10 l).getD 2 []) 0 (by omega) (by omega)) ?_)
      clear hS; rintro _ _ w ⟨r_130, c_131, g_132, rfl, rfl, o_133⟩ hS
      replace hS : K.Sat w0 [g_132, g_126, g_122, g_128, g_5, g_2, fr] w := hS
      refine ⟨.inl (hS.pick [4]), ?_⟩
      refine K.DW.l 7 rfl (by kernel_rfl) rfl (K.OW.gcall hS [] [0, 1, 2, 3, 4, 5, 6] [.string (K.sb ((K.spl 10 l).getD 2 [])), .int .i64 1] (values_ok _ ((K.spl 10 l).getD 2 []) 1 (by omega) (by omega)) ?_)
      clear hS; rintro _ _ w ⟨r_134, c_135, g_136, rfl, rfl, o_137⟩ hS
      replace hS : K.Sat w0 [g_136, g_132, g_126, g_122, g_128, g_5, g_2, fr] w := hS
      refine ⟨.inl (hS.pick [5]), ?_⟩
      refine K.DW.l 8 rfl (by kernel_rfl) rfl (K.OW.q rfl (K.QR.k (v := .slice r_130 ((valsT 0 ((K.spl 10 l).getD 2 [])).length) c_131) (by kernel_rfl)) ?_)
      refine ⟨.inl (hS.pick [5]), ?_⟩
      refine K.DW.l 9 rfl (by kernel_rfl) rfl (K.OW.q rfl (K.QR.k (v := .slice r_134 ((valsT 1 ((K.spl 10 l).getD 2 [])).length) c_135) (by kernel_rfl)) ?_)
      refine ⟨.inl (hS.pick [5]), ?_⟩
      refine K.DW.done (by kernel_rfl) ?_
      refine K.thn_normal ?_
      refine K.KW.seq ?_
      refine K.KW.seq ?_
      -- 6 :158
      refine K.KW.region ?_
      refine K.RW.qs [.int .i64 0] (by kernel_rfl) ?_
      refine K.RW.nil ?_
      refine K.thn_normal ?_
      refine K.KW.block ?_
      obtain ⟨z_138, hz_139⟩ : ∃ z : K.Cs, z = [] := ⟨_, rfl⟩
      replace hS : K.Sat w0 [z_138, g_136, g_132, g_126, g_122, g_128, g_5, g_2, fr] w := hS.of (by simp [hz_139])
      have o_140 : K.OwnG z_138 92 2 none 0 0 [] := by rw [hz_139]; exact K.OwnG.nil _ _
      refine K.KW.loop (fun m_ F_ w_ => ∃ (j : Nat) (o : List PairM) (q1 : Option Addr) (c1 : Nat) (o1 : K.Cs) (g5 : K.Cs), m_ = (valsT 0 ((K.spl 10 l).getD 2 [])).length - j ∧ K.Sl F_ [(0, .string (K.sb l)), (2, .pointer (some ⟨r_1, 0, none⟩)), (3, .int .i64 0), (5, .pointer (some ⟨r_117, 0, none⟩)), (6, .slice r_130 ((valsT 0 ((K.spl 10 l).getD 2 [])).length) c_131), (7, .slice r_134 ((valsT 1 ((K.spl 10 l).getD 2 [])).length) c_135), (8, .int .i64 ((j : Nat) : Int)), (62, undef)] ∧ j ≤ (valsT 0 ((K.spl 10 l).getD 2 [])).length ∧ o = zipP ((valsT 0 ((K.spl 10 l).getD 2 [])).take j) ((valsT 1 ((K.spl 10 l).getD 2 [])).take j) ∧ o.length ≤ j ∧ K.OwnG o1 92 2 q1 o.length c1 ((o).flatMap cPair) ∧ g5 = [K.pt r_117 46 [.slice r_120 ((valsT 0 ((K.spl 10 l).getD 0 [])).length) c_121, .slice r_124 ((valsT 0 ((K.spl 10 l).getD 1 [])).length) c_125, .slice q1 o.length c1]] ∧ K.Sat w0 [o1, g_136, g_132, g_126, g_122, g5, g_5, g_2, fr] w_) ((fun (j : Nat) (o : List PairM) (q1 : Option Addr) (c1 : Nat) => (valsT 0 ((K.spl 10 l).getD 2 [])).length - j) 0 [] none 0) ?_ ?_
      · -- begins
        exact ⟨0, [], none, 0, z_138, g_128, rfl, ⟨by rfl, by rfl, by rfl, by rfl, by rfl, by rfl, by rfl, by rfl, trivial⟩, (by omega), (rfl), (by exact Nat.le_refl 0), o_140, hg_129, hS.pick [0, 1, 2, 3, 4, 5, 6, 7, 8]⟩
      · -- a round
        clear hS
        intro m_141 F_142 w hI
        obtain ⟨j, o, q1, c1, o1, g5, rfl, sl_143, p_144, ho, p_145, x_146, x_147, hS⟩ := hI
        rw [← K.Sl.puts sl_143]; clear sl_143
        refine K.KW.seq ?_
        refine K.KW.seq ?_
        -- 7 :158
        refine K.KW.region ?_
        refine K.RW.qs [.int .i64 ((j : Nat) : Int), .slice r_130 ((valsT 0 ((K.spl 10 l).getD 2 [])).length) c_131] (by kernel_rfl) ?_
        refine K.RW.q rfl rfl (K.QR.len (P := Tryd.prog) rfl rfl Tryd.underlying43) ?_
        by_cases h_148 : (((j : Nat) : Int) : Int) < ((((valsT 0 ((K.spl 10 l).getD 2 [])).length : Nat) : Int) : Int)
        ·  -- yes
          refine K.RW.q rfl rfl (K.QR.nice (v := .bool (decide ((((j : Nat) : Int) : Int) < ((((valsT 0 ((K.spl 10 l).getD 2 [])).length : Nat) : Int) : Int)))) (by kernel_rfl) (congrArg Value.bool (decide_eq_true h_148))) ?_
          refine K.RW.nil ?_
          refine K.thn_normal ?_
          refine K.KW.ifT rfl ?_
          refine K.KW.skip ?_
          refine K.thn_normal ?_
          refine K.KW.seq ?_
          refine K.KW.block ?_
          -- 9 :159
          obtain ⟨b_149, rfl⟩ := o_133.some_ (by have := o_133.le; omega)
          obtain ⟨b_151, rfl⟩ := o_137.some_ (by have := o_137.le; omega)
          refine K.KW.gdrawn [2, 5] hS (by kernel_rfl) ?_
          clear hS; intro w hS
          refine K.DW.q 0 (by kernel_rfl) rfl rfl (by kernel_rfl) rfl (fun w hS => K.QR.k (v := .pointer (some ⟨r_117, 2, none⟩)) (by kernel_rfl)) (hS.pick [2, 5]) ?_
          refine K.DW.q 1 (by kernel_rfl) rfl rfl (by kernel_rfl) rfl (fun w hS => K.QR.ld1 (v := .slice q1 o.length c1) rfl rfl (by kernel_rfl) ((hS.blk 1 rfl x_147).cell rfl)) (hS.pick [2, 5]) ?_
          refine K.DW.q 2 (by kernel_rfl) rfl rfl (by kernel_rfl) rfl (fun w hS => K.QR.k (v := .slice (some ⟨b_149, 0, none⟩) ((valsT 0 ((K.spl 10 l).getD 2 [])).length) c_131) (by kernel_rfl)) (hS.pick [2, 5]) ?_
          refine K.DW.q 3 (by kernel_rfl) rfl rfl (by kernel_rfl) rfl (fun w hS => K.QR.k (v := .int .i64 ((j : Nat) : Int)) (by kernel_rfl)) (hS.pick [2, 5]) ?_
          refine K.DW.q 4 (by kernel_rfl) rfl rfl (by kernel_rfl) rfl (fun w hS => K.QR.ix j 1 rfl rfl rfl Tryd.underlying43 (by kernel_rfl) (by omega) (by first | (simp; done) | omega | (simp; omega))) (hS.pick [2, 5]) ?_
          refine K.DW.q 5 (by kernel_rfl) rfl rfl (by kernel_rfl) rfl (fun w hS => K.QR.ld1 (v := .int .u32 ((valsT 0 ((K.spl 10 l).getD 2 [])).getD j 0)) rfl rfl (by kernel_rfl) (K.Own.atS (c := cU32) (d := 0) (fun _ => rfl) (hS.ownr 0 rfl o_133) rfl j (by omega))) (hS.pick [2, 5]) ?_
          refine K.DW.q 6 (by kernel_rfl) rfl rfl (by kernel_rfl) rfl (fun w hS => K.QR.k (v := .slice (some ⟨b_151, 0, none⟩) ((valsT 1 ((K.spl 10 l).getD 2 [])).length) c_135) (by kernel_rfl)) (hS.pick [2, 5]) ?_
          refine K.DW.l 7 rfl (by kernel_rfl) rfl (K.OW.q rfl (K.QR.k (v := .int .i64 ((j : Nat) : Int)) (by kernel_rfl)) ?_)
          refine ⟨.inl (hS.pick [2, 5]), ?_⟩
          refine K.DW.l 8 rfl (by kernel_rfl) rfl (K.OW.q rfl (K.QR.ix j 1 rfl rfl rfl Tryd.underlying43 (by kernel_rfl) (by omega) (by first | (simp; done) | omega | (simp; omega))) ?_)
          refine ⟨.inl (hS.pick [2, 5]), ?_⟩
          refine K.DW.l 9 rfl (by kernel_rfl) rfl (K.OW.q rfl (K.QR.ld1 (v := .int .u32 ((valsT 1 ((K.spl 10 l).getD 2 [])).getD j 0)) rfl rfl (by kernel_rfl) (K.Own.atS (c := cU32) (d := 0) (fun _ => rfl) (hS.ownr 1 rfl o_137) rfl j (by omega))) ?_)
          refine ⟨.inl (hS.pick [2, 5]), ?_⟩
          refine K.DW.l 10 rfl (by kernel_rfl) rfl (K.OW.q rfl (K.QR.bd [(0, .int .u32 ((valsT 0 ((K.spl 10 l).getD 2 [])).getD j 0)), (1, .int .u32 ((valsT 1 ((K.spl 10 l).getD 2 [])).getD j 0))] [.int .u32 ((valsT 0 ((K.spl 10 l).getD 2 [])).getD j 0), .int .u32 ((valsT 1 ((K.spl 10 l).getD 2 [])).getD j 0)] rfl rfl (by kernel_rfl)) ?_)
          refine ⟨.inl (hS.pick [2, 5]), ?_⟩
          refine K.DW.l 11 rfl (by kernel_rfl) rfl (K.OW.gbs [(0, .agg #[.int .u32 ((valsT 0 ((K.spl 10 l).getD 2 [])).getD j 0), .int .u32 ((valsT 1 ((K.spl 10 l).getD 2 [])).getD j 0)])] [.int .u32 ((valsT 0 ((K.spl 10 l).getD 2 [])).getD j 0), .int .u32 ((valsT 1 ((K.spl 10 l).getD 2 [])).getD j 0)] hS (fun w => K.bs_run (P := Tryd.prog) w 44 92 1 _ _ Tryd.underlying44 (by kernel_rfl)) ?_)
          clear hS; intro w r_153 g_154 hg_155 hS
          refine ⟨.inl (hS.pick [3, 6]), ?_⟩
          refine K.DW.l 12 rfl (by kernel_rfl) rfl (K.OW.gapp (P := Tryd.prog) (xs := (o).flatMap cPair) (z := .agg #[.int .u32 0, .int .u32 0]) (size := 2) (bytes := 8) 1 [.int .u32 ((valsT 0 ((K.spl 10 l).getD 2 [])).getD j 0), .int .u32 ((valsT 1 ((K.spl 10 l).getD 2 [])).getD j 0)] hS x_146 ?_ (fun j u hj => (by rw [Nat.zero_add]; exact (hS.blk 0 rfl hg_155).cell hj)) (K.one_cells (by rfl)) (by rfl) Tryd.underlying44 (by kernel_rfl) rfl (by decide) (by unfold maxLen; omega) (by omega))
          clear hS; intro a_156 cap_157 w l_158 o_159 hS
          have ln_160 : ((o ++ [(⟨(valsT 0 ((K.spl 10 l).getD 2 [])).getD j 0, (valsT 1 ((K.spl 10 l).getD 2 [])).getD j 0⟩ : PairM)])).length = o.length + 1 := by rw [List.length_append]; rfl
          have o_159c := K.OwnG.cast (xs' := ((o ++ [(⟨(valsT 0 ((K.spl 10 l).getD 2 [])).getD j 0, (valsT 1 ((K.spl 10 l).getD 2 [])).getD j 0⟩ : PairM)])).flatMap cPair) o_159 rfl (K.fl_snoc cPair o _ rfl)
          replace hS : K.Sat w0 [g_154, l_158, g_136, g_132, g_126, g_122, g5, g_5, g_2, fr] w := hS
          refine ⟨.inl (hS.pick [3, 6]), ?_⟩
          refine K.DW.l 13 rfl (by kernel_rfl) rfl (K.OW.q rfl (K.QR.k (v := .pointer (some ⟨r_117, 2, none⟩)) (by kernel_rfl)) ?_)
          refine ⟨.inl (hS.pick [3, 6]), ?_⟩
          refine K.DW.l 14 rfl (by kernel_rfl) rfl (K.OW.gst 6 [.slice a_156 (o.length + 1) cap_157] [.slice r_120 ((valsT 0 ((K.spl 10 l).getD 0 [])).length) c_121, .slice r_124 ((valsT 0 ((K.spl 10 l).getD 1 [])).length) c_125, .slice a_156 (o.length + 1) cap_157] hS x_147 ?_)
          clear hS; intro w g_161 hg_162 hS
          replace hS : K.Sat w0 [g_154, l_158, g_136, g_132, g_126, g_122, g_161, g_5, g_2, fr] w := hS
          refine ⟨.inr (by kernel_rfl), ?_⟩
          refine K.DW.done (by kernel_rfl) ?_
          refine K.blk_normal ?_
          refine K.thn_normal ?_
          -- 8 :158
          refine K.KW.region ?_
          refine K.RW.qs [.int .i64 ((j : Nat) : Int)] (by kernel_rfl) ?_
          refine K.RW.q rfl rfl (K.QR.n64 ((((j : Nat) : Int) : Int) + (1 : Int)) ((j + 1 : Nat) : Int) (by kernel_rfl) (by omega)) ?_
          refine K.RW.qs [.int .i64 ((j + 1 : Nat) : Int)] (by kernel_rfl) ?_
          refine K.RW.nil ?_
          refine K.thn_normal ?_
          refine ⟨_, ?_, j + 1, (o ++ [(⟨(valsT 0 ((K.spl 10 l).getD 2 [])).getD j 0, (valsT 1 ((K.spl 10 l).getD 2 [])).getD j 0⟩ : PairM)]), a_156, cap_157, l_158, g_161, rfl, ⟨by rfl, by rfl, by rfl, by rfl, by rfl, by rfl, by rfl, by rfl, trivial⟩, (by omega), (by rw [ho, zipP_next (by omega) (by omega)]), (by first | omega | (rw [List.length_append]; simp; omega)), (K.OwnG.cast o_159c (by first | rfl | (rw [List.length_append]; rfl)) rfl), (by have hq : o.length + 1 = ((o ++ [(⟨(valsT 0 ((K.spl 10 l).getD 2 [])).getD j 0, (valsT 1 ((K.spl 10 l).getD 2 [])).getD j 0⟩ : PairM)])).length := (by first | rfl | (rw [List.length_append]; rfl)); rw [← hq]; exact hg_162), hS.pick [1, 2, 3, 4, 5, 6, 7, 8, 9]⟩
          omega
        ·  -- no
          refine K.RW.q rfl rfl (K.QR.nice (v := .bool (decide ((((j : Nat) : Int) : Int) < ((((valsT 0 ((K.spl 10 l).getD 2 [])).length : Nat) : Int) : Int)))) (by kernel_rfl) (congrArg Value.bool (decide_eq_false h_148))) ?_
          refine K.RW.nil ?_
          refine K.thn_normal ?_
          refine K.KW.ifF rfl ?_
          refine K.KW.exit ?_
          refine K.thn_exit ?_
          refine K.thn_exit ?_
          refine K.blk_hit ?_
          refine K.thn_normal ?_
          refine K.KW.seq ?_
          refine K.KW.seq ?_
          -- 10 :161
          have hSE : (⟨valsT 0 ((K.spl 10 l).getD 0 []), valsT 0 ((K.spl 10 l).getD 1 []), o⟩ : StM) = stP l := by unfold stP; rw [ho, List.take_of_length_le (by omega), List.take_of_length_le (by omega)]
          have hol : o.length ≤ 1000 := by have := (stP_few hl).2.2; rw [← hSE] at this; exact this
          refine K.KW.region ?_
          refine K.RW.q rfl rfl (K.QR.ldN [.slice r_120 ((valsT 0 ((K.spl 10 l).getD 0 [])).length) c_121, .slice r_124 ((valsT 0 ((K.spl 10 l).getD 1 [])).length) c_125, .slice q1 o.length c1] rfl rfl (by kernel_rfl) (by kernel_rfl) (K.cells (K.cl ((hS.blk 5 rfl x_147).cell rfl) (K.cl ((hS.blk 5 rfl x_147).cell rfl) (K.cl ((hS.blk 5 rfl x_147).cell rfl) K.cl0))))) ?_
          refine K.RW.l rfl (K.OW.gcall hS [4, 3, 0] [1, 2, 5, 6, 7, 8] [.agg #[.slice r_120 ((valsT 0 ((K.spl 10 l).getD 0 [])).length) c_121, .slice r_124 ((valsT 0 ((K.spl 10 l).getD 1 [])).length) c_125, .slice q1 o.length c1]] (rst_ok _ _ _ _ _ _ _ (⟨(valsT 0 ((K.spl 10 l).getD 0 [])), (valsT 0 ((K.spl 10 l).getD 1 [])), o⟩ : StM) (hSE ▸ stP_fits l) (hSE ▸ stP_few hl) _ (fun w h => K.RowE.len (K.Own.rowE 0 (h.ownr 0 rfl o_123) rfl (fun _ => rfl)) rfl) _ (fun w h => K.RowE.len (K.Own.rowE 0 (h.ownr 0 rfl o_127) rfl (fun _ => rfl)) rfl) _ (fun w h => K.RowE.len (K.Own.rowE p0 (h.ownr 0 rfl x_146) rfl (fun _ => rfl)) rfl)) ?_)
          clear hS; rintro _ _ w ⟨rfl, rfl⟩ hS
          replace hS : K.Sat w0 [g_122, g_126, o1, g_136, g_132, g5, g_5, g_2, fr] w := hS
          refine K.RW.qs [.string (K.sb l)] (by kernel_rfl) ?_
          by_cases h_163 : (stR (⟨(valsT 0 ((K.spl 10 l).getD 0 [])), (valsT 0 ((K.spl 10 l).getD 1 [])), o⟩ : StM)) = l
          ·  -- yes
            refine K.RW.q rfl rfl (K.QR.sNe (xs := (stR (⟨(valsT 0 ((K.spl 10 l).getD 0 [])), (valsT 0 ((K.spl 10 l).getD 1 [])), o⟩ : StM))) (ys := l) false rfl rfl rfl (K.ndeq_t h_163)) ?_
            refine K.RW.nil ?_
            refine K.thn_normal ?_
            refine K.KW.ifF rfl ?_
            refine K.KW.skip ?_
            refine K.thn_normal ?_
            refine K.KW.seq ?_
            refine K.KW.seq ?_
            -- 12 :164
            refine K.KW.region ?_
            refine K.RW.q rfl rfl (K.QR.ldN [.slice r_120 ((valsT 0 ((K.spl 10 l).getD 0 [])).length) c_121, .slice r_124 ((valsT 0 ((K.spl 10 l).getD 1 [])).length) c_125, .slice q1 o.length c1] rfl rfl (by kernel_rfl) (by kernel_rfl) (K.cells (K.cl ((hS.blk 5 rfl x_147).cell rfl) (K.cl ((hS.blk 5 rfl x_147).cell rfl) (K.cl ((hS.blk 5 rfl x_147).cell rfl) K.cl0))))) ?_
            refine K.RW.l rfl (K.OW.kcall hS [.agg #[.slice r_120 ((valsT 0 ((K.spl 10 l).getD 0 [])).length) c_121, .slice r_124 ((valsT 0 ((K.spl 10 l).getD 1 [])).length) c_125, .slice q1 o.length c1]] (rright_ok _ _ _ _ _ _ _ (valsT 0 ((K.spl 10 l).getD 1 [])) o _ (by first | omega | decide) (by first | omega | decide) (K.Own.rowE 0 (hS.ownr 1 rfl o_127) rfl (fun _ => rfl)) (K.Own.rowE p0 (hS.ownr 2 rfl x_146) rfl (fun _ => rfl))) ?_)
            rintro _ w ⟨rfl, c_164⟩
            replace hS := hS.no c_164
            cases hb_165 : (risingB (valsT 0 ((K.spl 10 l).getD 1 [])) && risingB (keysP o))
            ·
              refine K.RW.qs [.bool true] (by kernel_rfl) ?_
              refine K.RW.nil ?_
              refine K.thn_normal ?_
              refine K.KW.ifT rfl ?_
              refine K.KW.seq ?_
              -- 13 :165
              refine K.KW.region ?_
              refine K.RW.q rfl rfl (K.QR.bd [] [.slice none 0 0, .slice none 0 0, .slice none 0 0] rfl rfl (by kernel_rfl)) ?_
              refine K.RW.l rfl (K.OW.gst 7 [.slice none 0 0, .slice none 0 0, .slice none 0 0] [.slice none 0 0, .slice none 0 0, .slice none 0 0] hS hg_3 ?_)
              clear hS; intro w g_166 hg_167 hS
              replace hS : K.Sat w0 [g_122, g_126, o1, g_136, g_132, g5, g_5, g_166, fr] w := hS
              refine K.RW.qs [.int .i64 9] (by kernel_rfl) ?_
              refine K.RW.nil ?_
              refine K.thn_normal ?_
              refine K.KW.ret ?_
              refine K.thn_ret ?_
              refine ⟨.inr rfl, rfl, (.tuple #[.agg #[.slice none 0 0, .slice none 0 0, .slice none 0 0], .int .i64 9]), K.resAt (rs := [.cell 2 46, .tmp 3]) [.agg #[.slice none 0 0, .slice none 0 0, .slice none 0 0], .int .i64 9] rfl ⟨⟨_, rfl, K.lvN [.slice none 0 0, .slice none 0 0, .slice none 0 0] (by kernel_rfl) (by kernel_rfl) (K.cells (K.cl ((hS.blk 7 rfl hg_167).cell rfl) (K.cl ((hS.blk 7 rfl hg_167).cell rfl) (K.cl ((hS.blk 7 rfl hg_167).cell rfl) K.cl0))))⟩, rfl, trivial⟩, [], ?_, hS.pick [8]⟩
              exact .inr (.inr ⟨by omega, hSE ▸ (by assumption), hSE ▸ hb_165, rfl, rfl⟩)
            ·
              refine K.RW.qs [.bool false] (by kernel_rfl) ?_
              refine K.RW.nil ?_
              refine K.thn_normal ?_
              refine K.KW.ifF rfl ?_
              refine K.KW.skip ?_
              refine K.thn_normal ?_
              refine K.KW.seq ?_
              -- 14 :167
              refine K.KW.region ?_
              refine K.RW.q rfl rfl (K.QR.ldN [.slice r_120 ((valsT 0 ((K.spl 10 l).getD 0 [])).length) c_121, .slice r_124 ((valsT 0 ((K.spl 10 l).getD 1 [])).length) c_125, .slice q1 o.length c1] rfl rfl (by kernel_rfl) (by kernel_rfl) (K.cells (K.cl ((hS.blk 5 rfl x_147).cell rfl) (K.cl ((hS.blk 5 rfl x_147).cell rfl) (K.cl ((hS.blk 5 rfl x_147).cell rfl) K.cl0))))) ?_
              refine K.RW.l rfl (K.OW.gst 7 [.slice r_120 ((valsT 0 ((K.spl 10 l).getD 0 [])).length) c_121, .slice r_124 ((valsT 0 ((K.spl 10 l).getD 1 [])).length) c_125, .slice q1 o.length c1] [.slice r_120 ((valsT 0 ((K.spl 10 l).getD 0 [])).length) c_121, .slice r_124 ((valsT 0 ((K.spl 10 l).getD 1 [])).length) c_125, .slice q1 o.length c1] hS hg_3 ?_)
              clear hS; intro w g_168 hg_169 hS
              replace hS : K.Sat w0 [g_122, g_126, o1, g_136, g_132, g5, g_5, g_168, fr] w := hS
              refine K.RW.qs [.int .i64 0] (by kernel_rfl) ?_
              refine K.RW.nil ?_
              refine K.thn_normal ?_
              refine K.KW.ret ?_
              refine ⟨.inr rfl, rfl, (.tuple #[.agg #[.slice r_120 ((valsT 0 ((K.spl 10 l).getD 0 [])).length) c_121, .slice r_124 ((valsT 0 ((K.spl 10 l).getD 1 [])).length) c_125, .slice q1 o.length c1], .int .i64 0]), K.resAt (rs := [.cell 2 46, .tmp 3]) [.agg #[.slice r_120 ((valsT 0 ((K.spl 10 l).getD 0 [])).length) c_121, .slice r_124 ((valsT 0 ((K.spl 10 l).getD 1 [])).length) c_125, .slice q1 o.length c1], .int .i64 0] rfl ⟨⟨_, rfl, K.lvN [.slice r_120 ((valsT 0 ((K.spl 10 l).getD 0 [])).length) c_121, .slice r_124 ((valsT 0 ((K.spl 10 l).getD 1 [])).length) c_125, .slice q1 o.length c1] (by kernel_rfl) (by kernel_rfl) (K.cells (K.cl ((hS.blk 7 rfl hg_169).cell rfl) (K.cl ((hS.blk 7 rfl hg_169).cell rfl) (K.cl ((hS.blk 7 rfl hg_169).cell rfl) K.cl0))))⟩, rfl, trivial⟩, [g_122, g_126, o1], ?_, hS.pick [0, 1, 2, 8]⟩
              exact .inl ⟨(⟨(valsT 0 ((K.spl 10 l).getD 0 [])), (valsT 0 ((K.spl 10 l).getD 1 [])), o⟩ : StM), _, _, _, _, _, _, _, _, _, hSE, by omega, by assumption, hb_165, rfl, rfl, o_123, o_127, x_146⟩
          ·  -- no
            refine K.RW.q rfl rfl (K.QR.sNe (xs := (stR (⟨(valsT 0 ((K.spl 10 l).getD 0 [])), (valsT 0 ((K.spl 10 l).getD 1 [])), o⟩ : StM))) (ys := l) true rfl rfl rfl (K.ndeq_f h_163)) ?_
            refine K.RW.nil ?_
            refine K.thn_normal ?_
            refine K.KW.ifT rfl ?_
            refine K.KW.seq ?_
            -- 11 :162
            refine K.KW.region ?_
            refine K.RW.q rfl rfl (K.QR.bd [] [.slice none 0 0, .slice none 0 0, .slice none 0 0] rfl rfl (by kernel_rfl)) ?_
            refine K.RW.l rfl (K.OW.gst 7 [.slice none 0 0, .slice none 0 0, .slice none 0 0] [.slice none 0 0, .slice none 0 0, .slice none 0 0] hS hg_3 ?_)
            clear hS; intro w g_170 hg_171 hS
            replace hS : K.Sat w0 [g_122, g_126, o1, g_136, g_132, g5, g_5, g_170, fr] w := hS
            refine K.RW.qs [.int .i64 3] (by kernel_rfl) ?_
            refine K.RW.nil ?_
            refine K.thn_normal ?_
            refine K.KW.ret ?_
            refine K.thn_ret ?_
            refine ⟨.inr rfl, rfl, (.tuple #[.agg #[.slice none 0 0, .slice none 0 0, .slice none 0 0], .int .i64 3]), K.resAt (rs := [.cell 2 46, .tmp 3]) [.agg #[.slice none 0 0, .slice none 0 0, .slice none 0 0], .int .i64 3] rfl ⟨⟨_, rfl, K.lvN [.slice none 0 0, .slice none 0 0, .slice none 0 0] (by kernel_rfl) (by kernel_rfl) (K.cells (K.cl ((hS.blk 7 rfl hg_171).cell rfl) (K.cl ((hS.blk 7 rfl hg_171).cell rfl) (K.cl ((hS.blk 7 rfl hg_171).cell rfl) K.cl0))))⟩, rfl, trivial⟩, [], ?_, hS.pick [8]⟩
            exact .inr (.inl ⟨fun hh => absurd (hSE ▸ hh.2) (by assumption), rfl, rfl⟩)
  ·  -- no
    refine K.RW.q rfl rfl (K.QR.nice (v := .bool (((((K.spl 10 l).length : Nat) : Int) : Int) != (4 : Int))) (by kernel_rfl) (congrArg Value.bool (bne_iff_ne.2 h_8))) ?_
    refine K.RW.nil ?_
    refine K.thn_normal ?_
    refine K.KW.ifT rfl ?_
    refine K.KW.seq ?_
    -- 3 :154
    refine K.KW.region ?_
    refine K.RW.q rfl rfl (K.QR.bd [] [.slice none 0 0, .slice none 0 0, .slice none 0 0] rfl rfl (by kernel_rfl)) ?_
    refine K.RW.l rfl (K.OW.gst 1 [.slice none 0 0, .slice none 0 0, .slice none 0 0] [.slice none 0 0, .slice none 0 0, .slice none 0 0] hS hg_3 ?_)
    clear hS; intro w g_172 hg_173 hS
    replace hS : K.Sat w0 [g_5, g_172, fr] w := hS
    refine K.RW.qs [.int .i64 3] (by kernel_rfl) ?_
    refine K.RW.nil ?_
    refine K.thn_normal ?_
    refine K.KW.ret ?_
    refine K.thn_ret ?_
    refine ⟨.inr rfl, rfl, (.tuple #[.agg #[.slice none 0 0, .slice none 0 0, .slice none 0 0], .int .i64 3]), K.resAt (rs := [.cell 2 46, .tmp 3]) [.agg #[.slice none 0 0, .slice none 0 0, .slice none 0 0], .int .i64 3] rfl ⟨⟨_, rfl, K.lvN [.slice none 0 0, .slice none 0 0, .slice none 0 0] (by kernel_rfl) (by kernel_rfl) (K.cells (K.cl ((hS.blk 1 rfl hg_173).cell rfl) (K.cl ((hS.blk 1 rfl hg_173).cell rfl) (K.cl ((hS.blk 1 rfl hg_173).cell rfl) K.cl0))))⟩, rfl, trivial⟩, [], ?_, hS.pick [2]⟩
    exact .inr (.inl ⟨fun hh => by have := hh.1; omega, rfl, rfl⟩)
end Go.Proofs.YtnehocjmgnhhhaaDoor
