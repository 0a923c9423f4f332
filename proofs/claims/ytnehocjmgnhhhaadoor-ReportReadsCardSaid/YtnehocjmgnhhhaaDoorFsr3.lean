import Derived.Test.YtnehocjmgnhhhaaDoorFsr2
/- Reports: the document's Read. -/
namespace Go.Proofs.YtnehocjmgnhhhaaDoor
open Go.RowKit
set_option linter.unusedVariables false
attribute [local irreducible] K.KW K.RW K.DW K.OW K.QR K.KC
/-- the last place of so many at which a name stands -/
def lxF (x : List UInt8) (L : List (List UInt8)) (lo : Nat) (d : Int) : Nat → Int
  | 0 => d
  | r + 1 => if L.getD (lo + r) [] = x then ((lo + r : Nat) : Int) else lxF x L lo d r
theorem lx1_t {x : List UInt8} {L : List (List UInt8)} {d : Int} {k : Nat} (h1 : 1 ≤ k) (h : L.getD k [] = x) : ((k : Nat) : Int) = lxF x L 1 d (k + 1 - 1) := by
  obtain ⟨m, rfl⟩ : ∃ m, k = m + 1 := ⟨k - 1, by omega⟩
  rw [Nat.add_sub_cancel]; unfold lxF
  rw [if_pos (by rw [Nat.add_comm 1 m]; exact h), Nat.add_comm 1 m]
theorem lx1_f {x : List UInt8} {L : List (List UInt8)} {d kd : Int} {k : Nat} (hk : kd = lxF x L 1 d (k - 1)) (h1 : 1 ≤ k) (h : ¬ L.getD k [] = x) : kd = lxF x L 1 d (k + 1 - 1) := by
  obtain ⟨m, rfl⟩ : ∃ m, k = m + 1 := ⟨k - 1, by omega⟩
  rw [Nat.add_sub_cancel] at hk ⊢
  conv => rhs; unfold lxF
  rw [if_neg (by rw [Nat.add_comm 1 m]; exact h)]; exact hk
theorem lx0_t {x : List UInt8} {L : List (List UInt8)} {d : Int} {k : Nat} (h : L.getD k [] = x) : ((k : Nat) : Int) = lxF x L 0 d (k + 1) := by
  unfold lxF; rw [Nat.zero_add, if_pos h]
theorem lx0_f {x : List UInt8} {L : List (List UInt8)} {d kd : Int} {k : Nat} (hk : kd = lxF x L 0 d k) (h : ¬ L.getD k [] = x) : kd = lxF x L 0 d (k + 1) := by
  conv => rhs; unfold lxF
  rw [Nat.zero_add, if_neg h]; exact hk
/-- the call that a line's words are, as the document reads them -/
def rdT (W : List (List UInt8)) : CallM :=
  ⟨numR (W.getD 0 []) 63, lxF (W.getD 1 []) opNm 1 0 8, u32R (numR (W.getD 2 []) 4294967295), u32R (numR (W.getD 3 []) 4294967295), lxF (W.getD 4 []) resNm 0 (-1) 6, u32R (numR (W.getD 5 []) 4294967295), whenT (W.getD 6 []), whenT (W.getD 8 []), whenT (W.getD 7 []), decide (W.getD 9 [] = [99, 114, 97, 115, 104, 101, 100]) || decide (W.getD 9 [] = [107, 101, 112, 116]), decide (W.getD 9 [] = [107, 101, 112, 116])⟩
def okT (l : List UInt8) : Prop := (K.spl 32 l).length = 10 ∧ 0 ≤ numR ((K.spl 32 l).getD 0 []) 63 ∧ 0 ≤ numR ((K.spl 32 l).getD 2 []) 4294967295 ∧ 0 ≤ numR ((K.spl 32 l).getD 3 []) 4294967295 ∧ 0 ≤ numR ((K.spl 32 l).getD 5 []) 4294967295 ∧ (rdT (K.spl 32 l)).may ∧ lineR (rdT (K.spl 32 l)) = l
instance (l : List UInt8) : Decidable (okT l) := inferInstanceAs (Decidable (_ ∧ _))
theorem rdT_eq {W : List (List UInt8)} {kd rk : Int} {p q : Bool} (h1 : kd = lxF (W.getD 1 []) opNm 1 0 8) (h2 : rk = lxF (W.getD 4 []) resNm 0 (-1) 6) (hp : (decide (W.getD 9 [] = [99, 114, 97, 115, 104, 101, 100]) || decide (W.getD 9 [] = [107, 101, 112, 116])) = p) (hq : decide (W.getD 9 [] = [107, 101, 112, 116]) = q) :
    rdT W = ⟨numR (W.getD 0 []) 63, kd, u32R (numR (W.getD 2 []) 4294967295), u32R (numR (W.getD 3 []) 4294967295), rk, u32R (numR (W.getD 5 []) 4294967295), whenT (W.getD 6 []), whenT (W.getD 8 []), whenT (W.getD 7 []), p, q⟩ := by subst h1 h2 hp hq; rfl
theorem u32R_in (x : Int) : 0 ≤ u32R x ∧ u32R x ≤ 4294967295 := by
  unfold u32R
  rw [show IntKind.u32.wrap x = x % 4294967296 by simp [IntKind.wrap, IntKind.bits, IntKind.signed]]
  omega
theorem may_fits {th ok k v rk rv beg en wh : Int} {p q : Bool} (h : (⟨th, ok, u32R k, u32R v, rk, u32R rv, beg, en, wh, p, q⟩ : CallM).may) : (⟨th, ok, u32R k, u32R v, rk, u32R rv, beg, en, wh, p, q⟩ : CallM).fits := by
  have hn := h.1
  unfold CallM.nums at hn
  have h1 := u32R_in k; have h2 := u32R_in v; have h3 := u32R_in rv
  unfold CallM.fits isI64
  simp only at hn ⊢
  omega
theorem crk {x : List UInt8} (h : x = [99, 114, 97, 115, 104, 101, 100]) : (decide (x = [99, 114, 97, 115, 104, 101, 100]) || decide (x = [107, 101, 112, 116])) = true := by simp [h]
theorem crk2 {x : List UInt8} (h : x = [107, 101, 112, 116]) : (decide (x = [99, 114, 97, 115, 104, 101, 100]) || decide (x = [107, 101, 112, 116])) = true := by simp [h]
theorem crk0 {x : List UInt8} (h : ¬ x = [99, 114, 97, 115, 104, 101, 100]) (h2 : ¬ x = [107, 101, 112, 116]) : (decide (x = [99, 114, 97, 115, 104, 101, 100]) || decide (x = [107, 101, 112, 116])) = false := by simp [h, h2]
set_option maxHeartbeats 8000000 in
set_option maxRecDepth 100000 in
theorem rread_ok (w0 : World) (l : List UInt8) (hl : l.length ≤ 1000000) :
    K.GC Tryd.prog w0 11 #[.string (K.sb l)] [] (fun v post => post = [] ∧ ((okT l ∧ v = .tuple #[callA (rdT (K.spl 32 l)), .bool true]) ∨ (¬ okT l ∧ v = .tuple #[callA call0, .bool false]))) := by
  refine K.GC.mk (n := 135) Tryd.func11 rfl rfl [.string (K.sb l)] rfl rfl ?_
  intro fr w hS
  replace hS : K.Sat w0 [fr] w := hS
  refine K.KW.seq ?_
  -- 0 :80
  refine K.KW.region ?_
  refine K.RW.l rfl (K.OW.gnew 29 [.int .i64 0, .int .i64 0, .int .u32 0, .int .u32 0, .int .i64 0, .int .u32 0, .int .i64 0, .int .i64 0, .int .i64 0, .bool false, .bool false] hS ?_)
  clear hS; intro w r_1 g_2 hg_3 hS
  refine K.RW.qs [.bool false] (by kernel_rfl) ?_
  refine K.RW.nil ?_
  refine K.thn_normal ?_
  refine K.KW.seq ?_
  -- 1 :81
  refine K.KW.region ?_
  refine K.RW.qs [.string (K.sb l)] (by kernel_rfl) ?_
  refine K.RW.l rfl (K.OW.gcall hS [] [0, 1] [.string (K.sb l), .int .u8 32] (rsplit_ok _ l 32 (by omega)) ?_)
  clear hS; rintro _ _ w ⟨r_4, g_5, k_6, rfl, rfl, o_7⟩ hS
  replace hS : K.Sat w0 [g_5, g_2, fr] w := hS
  refine K.RW.qs [.slice r_4 ((K.spl 32 l).length) k_6] (by kernel_rfl) ?_
  refine K.RW.nil ?_
  refine K.thn_normal ?_
  refine K.KW.seq ?_
  refine K.KW.seq ?_
  -- 2 :82
  refine K.KW.region ?_
  refine K.RW.qs [.slice r_4 ((K.spl 32 l).length) k_6] (by kernel_rfl) ?_
  refine K.RW.q rfl rfl (K.QR.len (P := Tryd.prog) rfl rfl Tryd.underlying68) ?_
  by_cases h_8 : ((((K.spl 32 l).length : Nat) : Int) : Int) = (10 : Int)
  ·  -- yes
    refine K.RW.q rfl rfl (K.QR.nice (v := .bool (((((K.spl 32 l).length : Nat) : Int) : Int) != (10 : Int))) (by kernel_rfl) (congrArg Value.bool (bne_eq_false_iff_eq.2 h_8))) ?_
    refine K.RW.nil ?_
    refine K.thn_normal ?_
    refine K.KW.ifF rfl ?_
    refine K.KW.skip ?_
    refine K.thn_normal ?_
    refine K.KW.seq ?_
    -- 4 :85
    refine K.KW.region ?_
    refine K.RW.l rfl (K.OW.gnew 29 [.int .i64 0, .int .i64 0, .int .u32 0, .int .u32 0, .int .i64 0, .int .u32 0, .int .i64 0, .int .i64 0, .int .i64 0, .bool false, .bool false] hS ?_)
    clear hS; intro w r_9 g_10 hg_11 hS
    refine K.RW.nil ?_
    refine K.thn_normal ?_
    refine K.KW.seq ?_
    refine K.KW.seq ?_
    -- 5 :86
    refine K.KW.region ?_
    refine K.RW.qs [.int .i64 1] (by kernel_rfl) ?_
    refine K.RW.nil ?_
    refine K.thn_normal ?_
    refine K.KW.block ?_
    refine K.KW.loop (fun m_ F_ w_ => ∃ (k : Nat) (kd : Int) (g5 : K.Cs), m_ = 9 - k ∧ K.Sl F_ [(0, .string (K.sb l)), (2, .pointer (some ⟨r_1, 0, none⟩)), (3, .bool false), (4, .slice r_4 ((K.spl 32 l).length) k_6), (5, .pointer (some ⟨r_9, 0, none⟩)), (6, .int .i64 ((k : Nat) : Int)), (135, undef)] ∧ (1 ≤ k ∧ k ≤ 9) ∧ kd = lxF ((K.spl 32 l).getD 1 []) opNm 1 0 (k - 1) ∧ g5 = [K.pt r_9 29 [.int .i64 0, .int .i64 kd, .int .u32 0, .int .u32 0, .int .i64 0, .int .u32 0, .int .i64 0, .int .i64 0, .int .i64 0, .bool false, .bool false]] ∧ K.Sat w0 [g5, g_5, g_2, fr] w_) ((fun (k : Nat) (kd : Int) => 9 - k) 1 0) ?_ ?_
    · -- begins
      exact ⟨1, 0, g_10, rfl, ⟨by rfl, by rfl, by rfl, by rfl, by rfl, by rfl, by rfl, trivial⟩, (by omega), (rfl), hg_11, hS.pick [0, 1, 2, 3]⟩
    · -- a round
      clear hS
      intro m_12 F_13 w hI
      obtain ⟨k, kd, g5, rfl, sl_14, p_15, hkd, x_16, hS⟩ := hI
      rw [← K.Sl.puts sl_14]; clear sl_14
      refine K.KW.seq ?_
      refine K.KW.seq ?_
      -- 6 :86
      refine K.KW.region ?_
      refine K.RW.qs [.int .i64 ((k : Nat) : Int)] (by kernel_rfl) ?_
      by_cases h_17 : (((k : Nat) : Int) : Int) ≤ (8 : Int)
      ·  -- yes
        refine K.RW.q rfl rfl (K.QR.nice (v := .bool (decide ((((k : Nat) : Int) : Int) ≤ (8 : Int)))) (by kernel_rfl) (congrArg Value.bool (decide_eq_true h_17))) ?_
        refine K.RW.nil ?_
        refine K.thn_normal ?_
        refine K.KW.ifT rfl ?_
        refine K.KW.skip ?_
        refine K.thn_normal ?_
        refine K.KW.seq ?_
        refine K.KW.block ?_
        refine K.KW.seq ?_
        -- 8 :87
        obtain ⟨b_18, rfl⟩ := o_7.some_ (by have := o_7.le; omega)
        refine K.KW.gdrawn [1] hS (by kernel_rfl) ?_
        clear hS; intro w hS
        refine K.DW.q 0 (by kernel_rfl) rfl rfl (by kernel_rfl) rfl (fun w hS => K.QR.k (v := .int .i64 ((k : Nat) : Int)) (by kernel_rfl)) (hS.pick [1]) ?_
        refine K.DW.q 2 (by kernel_rfl) rfl rfl (by kernel_rfl) rfl (fun w hS => K.QR.k (v := .slice (some ⟨b_18, 0, none⟩) ((K.spl 32 l).length) k_6) (by kernel_rfl)) (hS.pick [1]) ?_
        refine K.DW.q 3 (by kernel_rfl) rfl rfl (by kernel_rfl) rfl (fun w hS => K.QR.ix 1 1 rfl rfl rfl Tryd.underlying68 (by kernel_rfl) (by omega) (by first | (simp; done) | omega | (simp; omega))) (hS.pick [1]) ?_
        refine K.DW.q 4 (by kernel_rfl) rfl rfl (by kernel_rfl) rfl (fun w hS => K.QR.ld1 (v := .string (K.sb ((K.spl 32 l).getD 1 []))) rfl rfl (by kernel_rfl) (K.Own.atS (c := K.cStr) (d := []) (fun _ => rfl) (hS.ownr 0 rfl o_7) rfl 1 (by omega))) (hS.pick [1]) ?_
        refine K.DW.l 1 rfl (by kernel_rfl) rfl (K.OW.gcall hS [] [0, 1, 2, 3] [.int .i64 ((k : Nat) : Int)] (rname_ok _ ((k : Nat) : Int) (by omega)) ?_)
        clear hS; rintro _ _ w ⟨rfl, rfl⟩ hS
        replace hS : K.Sat w0 [g5, g_5, g_2, fr] w := hS
        refine ⟨.inl (hS.pick [1]), ?_⟩
        by_cases h_20 : (opNm.getD k []) = ((K.spl 32 l).getD 1 [])
        ·  -- yes
          refine K.DW.l 5 rfl (by kernel_rfl) rfl (K.OW.q rfl (K.QR.sEq (xs := (opNm.getD k [])) (ys := (K.spl 32 l).getD 1 []) true rfl rfl rfl (K.deq_t h_20)) ?_)
          refine ⟨.inl (hS.pick [1]), ?_⟩
          refine K.DW.done (by kernel_rfl) ?_
          refine K.thn_normal ?_
          refine K.KW.ifT rfl ?_
          -- 9 :88
          refine K.KW.region ?_
          refine K.RW.qs [.int .i64 ((k : Nat) : Int), .pointer (some ⟨r_9, 1, none⟩), .pointer (some ⟨r_9, 1, none⟩)] (by kernel_rfl) ?_
          refine K.RW.l rfl (K.OW.gst 0 [.int .i64 ((k : Nat) : Int)] [.int .i64 0, .int .i64 ((k : Nat) : Int), .int .u32 0, .int .u32 0, .int .i64 0, .int .u32 0, .int .i64 0, .int .i64 0, .int .i64 0, .bool false, .bool false] hS x_16 ?_)
          clear hS; intro w g_21 hg_22 hS
          replace hS : K.Sat w0 [g_21, g_5, g_2, fr] w := hS
          refine K.RW.nil ?_
          refine K.blk_normal ?_
          refine K.thn_normal ?_
          -- 7 :86
          refine K.KW.region ?_
          refine K.RW.qs [.int .i64 ((k : Nat) : Int)] (by kernel_rfl) ?_
          refine K.RW.q rfl rfl (K.QR.n64 ((((k : Nat) : Int) : Int) + (1 : Int)) ((k + 1 : Nat) : Int) (by kernel_rfl) (by omega)) ?_
          refine K.RW.qs [.int .i64 ((k + 1 : Nat) : Int)] (by kernel_rfl) ?_
          refine K.RW.nil ?_
          refine K.thn_normal ?_
          refine ⟨_, ?_, k + 1, ((k : Nat) : Int), g_21, rfl, ⟨by rfl, by rfl, by rfl, by rfl, by rfl, by rfl, by rfl, trivial⟩, (by omega), (lx1_t (by omega) h_20), hg_22, hS.pick [0, 1, 2, 3]⟩
          omega
        ·  -- no
          refine K.DW.l 5 rfl (by kernel_rfl) rfl (K.OW.q rfl (K.QR.sEq (xs := (opNm.getD k [])) (ys := (K.spl 32 l).getD 1 []) false rfl rfl rfl (K.deq_f h_20)) ?_)
          refine ⟨.inl (hS.pick [1]), ?_⟩
          refine K.DW.done (by kernel_rfl) ?_
          refine K.thn_normal ?_
          refine K.KW.ifF rfl ?_
          refine K.KW.skip ?_
          refine K.blk_normal ?_
          refine K.thn_normal ?_
          -- 7 :86
          refine K.KW.region ?_
          refine K.RW.qs [.int .i64 ((k : Nat) : Int)] (by kernel_rfl) ?_
          refine K.RW.q rfl rfl (K.QR.n64 ((((k : Nat) : Int) : Int) + (1 : Int)) ((k + 1 : Nat) : Int) (by kernel_rfl) (by omega)) ?_
          refine K.RW.qs [.int .i64 ((k + 1 : Nat) : Int)] (by kernel_rfl) ?_
          refine K.RW.nil ?_
          refine K.thn_normal ?_
          refine ⟨_, ?_, k + 1, kd, g5, rfl, ⟨by rfl, by rfl, by rfl, by rfl, by rfl, by rfl, by rfl, trivial⟩, (by omega), (lx1_f hkd (by omega) h_20), x_16, hS.pick [0, 1, 2, 3]⟩
          omega
      ·  -- no
        refine K.RW.q rfl rfl (K.QR.nice (v := .bool (decide ((((k : Nat) : Int) : Int) ≤ (8 : Int)))) (by kernel_rfl) (congrArg Value.bool (decide_eq_false h_17))) ?_
        refine K.RW.nil ?_
        refine K.thn_normal ?_
        refine K.KW.ifF rfl ?_
        refine K.KW.exit ?_
        refine K.thn_exit ?_
        refine K.thn_exit ?_
        refine K.blk_hit ?_
        refine K.thn_normal ?_
        refine K.KW.seq ?_
        -- 10 :91
        have hkd8 : kd = lxF ((K.spl 32 l).getD 1 []) opNm 1 0 8 := by rw [hkd]; congr 1; omega
        refine K.KW.region ?_
        refine K.RW.qs [.pointer (some ⟨r_9, 4, none⟩), .pointer (some ⟨r_9, 4, none⟩)] (by kernel_rfl) ?_
        refine K.RW.l rfl (K.OW.gst 0 [.int .i64 (-1)] [.int .i64 0, .int .i64 kd, .int .u32 0, .int .u32 0, .int .i64 (-1), .int .u32 0, .int .i64 0, .int .i64 0, .int .i64 0, .bool false, .bool false] hS x_16 ?_)
        clear hS; intro w g_23 hg_24 hS
        replace hS : K.Sat w0 [g_23, g_5, g_2, fr] w := hS
        refine K.RW.nil ?_
        refine K.thn_normal ?_
        refine K.KW.seq ?_
        refine K.KW.seq ?_
        -- 11 :92
        refine K.KW.region ?_
        refine K.RW.qs [.int .i64 0] (by kernel_rfl) ?_
        refine K.RW.nil ?_
        refine K.thn_normal ?_
        refine K.KW.block ?_
        refine K.KW.loop (fun m_ F_ w_ => ∃ (j : Nat) (rk : Int) (g5 : K.Cs), m_ = 6 - j ∧ K.Sl F_ [(0, .string (K.sb l)), (2, .pointer (some ⟨r_1, 0, none⟩)), (3, .bool false), (4, .slice r_4 ((K.spl 32 l).length) k_6), (5, .pointer (some ⟨r_9, 0, none⟩)), (7, .int .i64 ((j : Nat) : Int)), (135, undef)] ∧ j ≤ 6 ∧ rk = lxF ((K.spl 32 l).getD 4 []) resNm 0 (-1) j ∧ g5 = [K.pt r_9 29 [.int .i64 0, .int .i64 kd, .int .u32 0, .int .u32 0, .int .i64 rk, .int .u32 0, .int .i64 0, .int .i64 0, .int .i64 0, .bool false, .bool false]] ∧ K.Sat w0 [g5, g_5, g_2, fr] w_) ((fun (j : Nat) (rk : Int) => 6 - j) 0 (-1)) ?_ ?_
        · -- begins
          exact ⟨0, -1, g_23, rfl, ⟨by rfl, by rfl, by rfl, by rfl, by rfl, by rfl, by rfl, trivial⟩, (by omega), (rfl), hg_24, hS.pick [0, 1, 2, 3]⟩
        · -- a round
          clear hS
          intro m_25 F_26 w hI
          obtain ⟨j, rk, g5, rfl, sl_27, p_28, hrk, x_29, hS⟩ := hI
          rw [← K.Sl.puts sl_27]; clear sl_27
          refine K.KW.seq ?_
          refine K.KW.seq ?_
          -- 12 :92
          refine K.KW.region ?_
          refine K.RW.qs [.int .i64 ((j : Nat) : Int)] (by kernel_rfl) ?_
          by_cases h_30 : (((j : Nat) : Int) : Int) ≤ (5 : Int)
          ·  -- yes
            refine K.RW.q rfl rfl (K.QR.nice (v := .bool (decide ((((j : Nat) : Int) : Int) ≤ (5 : Int)))) (by kernel_rfl) (congrArg Value.bool (decide_eq_true h_30))) ?_
            refine K.RW.nil ?_
            refine K.thn_normal ?_
            refine K.KW.ifT rfl ?_
            refine K.KW.skip ?_
            refine K.thn_normal ?_
            refine K.KW.seq ?_
            refine K.KW.block ?_
            refine K.KW.seq ?_
            -- 14 :93
            obtain ⟨b_31, rfl⟩ := o_7.some_ (by have := o_7.le; omega)
            refine K.KW.gdrawn [1] hS (by kernel_rfl) ?_
            clear hS; intro w hS
            refine K.DW.q 0 (by kernel_rfl) rfl rfl (by kernel_rfl) rfl (fun w hS => K.QR.k (v := .int .i64 ((j : Nat) : Int)) (by kernel_rfl)) (hS.pick [1]) ?_
            refine K.DW.q 2 (by kernel_rfl) rfl rfl (by kernel_rfl) rfl (fun w hS => K.QR.k (v := .slice (some ⟨b_31, 0, none⟩) ((K.spl 32 l).length) k_6) (by kernel_rfl)) (hS.pick [1]) ?_
            refine K.DW.q 3 (by kernel_rfl) rfl rfl (by kernel_rfl) rfl (fun w hS => K.QR.ix 4 1 rfl rfl rfl Tryd.underlying68 (by kernel_rfl) (by omega) (by first | (simp; done) | omega | (simp; omega))) (hS.pick [1]) ?_
            refine K.DW.q 4 (by kernel_rfl) rfl rfl (by kernel_rfl) rfl (fun w hS => K.QR.ld1 (v := .string (K.sb ((K.spl 32 l).getD 4 []))) rfl rfl (by kernel_rfl) (K.Own.atS (c := K.cStr) (d := []) (fun _ => rfl) (hS.ownr 0 rfl o_7) rfl 4 (by omega))) (hS.pick [1]) ?_
            refine K.DW.l 1 rfl (by kernel_rfl) rfl (K.OW.gcall hS [] [0, 1, 2, 3] [.int .i64 ((j : Nat) : Int)] (rresult_ok _ ((j : Nat) : Int) (by omega)) ?_)
            clear hS; rintro _ _ w ⟨rfl, rfl⟩ hS
            replace hS : K.Sat w0 [g5, g_5, g_2, fr] w := hS
            refine ⟨.inl (hS.pick [1]), ?_⟩
            by_cases h_33 : (resNm.getD j []) = ((K.spl 32 l).getD 4 [])
            ·  -- yes
              refine K.DW.l 5 rfl (by kernel_rfl) rfl (K.OW.q rfl (K.QR.sEq (xs := (resNm.getD j [])) (ys := (K.spl 32 l).getD 4 []) true rfl rfl rfl (K.deq_t h_33)) ?_)
              refine ⟨.inl (hS.pick [1]), ?_⟩
              refine K.DW.done (by kernel_rfl) ?_
              refine K.thn_normal ?_
              refine K.KW.ifT rfl ?_
              -- 15 :94
              refine K.KW.region ?_
              refine K.RW.qs [.int .i64 ((j : Nat) : Int), .pointer (some ⟨r_9, 4, none⟩), .pointer (some ⟨r_9, 4, none⟩)] (by kernel_rfl) ?_
              refine K.RW.l rfl (K.OW.gst 0 [.int .i64 ((j : Nat) : Int)] [.int .i64 0, .int .i64 kd, .int .u32 0, .int .u32 0, .int .i64 ((j : Nat) : Int), .int .u32 0, .int .i64 0, .int .i64 0, .int .i64 0, .bool false, .bool false] hS x_29 ?_)
              clear hS; intro w g_34 hg_35 hS
              replace hS : K.Sat w0 [g_34, g_5, g_2, fr] w := hS
              refine K.RW.nil ?_
              refine K.blk_normal ?_
              refine K.thn_normal ?_
              -- 13 :92
              refine K.KW.region ?_
              refine K.RW.qs [.int .i64 ((j : Nat) : Int)] (by kernel_rfl) ?_
              refine K.RW.q rfl rfl (K.QR.n64 ((((j : Nat) : Int) : Int) + (1 : Int)) ((j + 1 : Nat) : Int) (by kernel_rfl) (by omega)) ?_
              refine K.RW.qs [.int .i64 ((j + 1 : Nat) : Int)] (by kernel_rfl) ?_
              refine K.RW.nil ?_
              refine K.thn_normal ?_
              refine ⟨_, ?_, j + 1, ((j : Nat) : Int), g_34, rfl, ⟨by rfl, by rfl, by rfl, by rfl, by rfl, by rfl, by rfl, trivial⟩, (by omega), (lx0_t h_33), hg_35, hS.pick [0, 1, 2, 3]⟩
              omega
            ·  -- no
              refine K.DW.l 5 rfl (by kernel_rfl) rfl (K.OW.q rfl (K.QR.sEq (xs := (resNm.getD j [])) (ys := (K.spl 32 l).getD 4 []) false rfl rfl rfl (K.deq_f h_33)) ?_)
              refine ⟨.inl (hS.pick [1]), ?_⟩
              refine K.DW.done (by kernel_rfl) ?_
              refine K.thn_normal ?_
              refine K.KW.ifF rfl ?_
              refine K.KW.skip ?_
              refine K.blk_normal ?_
              refine K.thn_normal ?_
              -- 13 :92
              refine K.KW.region ?_
              refine K.RW.qs [.int .i64 ((j : Nat) : Int)] (by kernel_rfl) ?_
              refine K.RW.q rfl rfl (K.QR.n64 ((((j : Nat) : Int) : Int) + (1 : Int)) ((j + 1 : Nat) : Int) (by kernel_rfl) (by omega)) ?_
              refine K.RW.qs [.int .i64 ((j + 1 : Nat) : Int)] (by kernel_rfl) ?_
              refine K.RW.nil ?_
              refine K.thn_normal ?_
              refine ⟨_, ?_, j + 1, rk, g5, rfl, ⟨by rfl, by rfl, by rfl, by rfl, by rfl, by rfl, by rfl, trivial⟩, (by omega), (lx0_f hrk h_33), x_29, hS.pick [0, 1, 2, 3]⟩
              omega
          ·  -- no
            refine K.RW.q rfl rfl (K.QR.nice (v := .bool (decide ((((j : Nat) : Int) : Int) ≤ (5 : Int)))) (by kernel_rfl) (congrArg Value.bool (decide_eq_false h_30))) ?_
            refine K.RW.nil ?_
            refine K.thn_normal ?_
            refine K.KW.ifF rfl ?_
            refine K.KW.exit ?_
            refine K.thn_exit ?_
            refine K.thn_exit ?_
            refine K.blk_hit ?_
            refine K.thn_normal ?_
            refine K.KW.seq ?_
            -- 16 :97
            have hrk6 : rk = lxF ((K.spl 32 l).getD 4 []) resNm 0 (-1) 6 := by rw [hrk]; congr 1; omega
            obtain ⟨b_36, rfl⟩ := o_7.some_ (by have := o_7.le; omega)
            have hl0 := K.getD_spl_len 32 l 0
            have hl2 := K.getD_spl_len 32 l 2
            have hl3 := K.getD_spl_len 32 l 3
            have hl5 := K.getD_spl_len 32 l 5
            have hl6 := K.getD_spl_len 32 l 6
            have hl7 := K.getD_spl_len 32 l 7
            have hl8 := K.getD_spl_len 32 l 8
            refine K.KW.gdrawn [1] hS (by kernel_rfl) ?_
            clear hS; intro w hS
            refine K.DW.q 0 (by kernel_rfl) rfl rfl (by kernel_rfl) rfl (fun w hS => K.QR.k (v := .slice (some ⟨b_36, 0, none⟩) ((K.spl 32 l).length) k_6) (by kernel_rfl)) (hS.pick [1]) ?_
            refine K.DW.q 1 (by kernel_rfl) rfl rfl (by kernel_rfl) rfl (fun w hS => K.QR.ix 0 1 rfl rfl rfl Tryd.underlying68 (by kernel_rfl) (by omega) (by first | (simp; done) | omega | (simp; omega))) (hS.pick [1]) ?_
            refine K.DW.q 2 (by kernel_rfl) rfl rfl (by kernel_rfl) rfl (fun w hS => K.QR.ld1 (v := .string (K.sb ((K.spl 32 l).getD 0 []))) rfl rfl (by kernel_rfl) (K.Own.atS (c := K.cStr) (d := []) (fun _ => rfl) (hS.ownr 0 rfl o_7) rfl 0 (by omega))) (hS.pick [1]) ?_
            refine K.DW.q 4 (by kernel_rfl) rfl rfl (by kernel_rfl) rfl (fun w hS => K.QR.k (v := .slice (some ⟨b_36, 0, none⟩) ((K.spl 32 l).length) k_6) (by kernel_rfl)) (hS.pick [1]) ?_
            refine K.DW.q 5 (by kernel_rfl) rfl rfl (by kernel_rfl) rfl (fun w hS => K.QR.ix 2 1 rfl rfl rfl Tryd.underlying68 (by kernel_rfl) (by omega) (by first | (simp; done) | omega | (simp; omega))) (hS.pick [1]) ?_
            refine K.DW.q 6 (by kernel_rfl) rfl rfl (by kernel_rfl) rfl (fun w hS => K.QR.ld1 (v := .string (K.sb ((K.spl 32 l).getD 2 []))) rfl rfl (by kernel_rfl) (K.Own.atS (c := K.cStr) (d := []) (fun _ => rfl) (hS.ownr 0 rfl o_7) rfl 2 (by omega))) (hS.pick [1]) ?_
            refine K.DW.q 8 (by kernel_rfl) rfl rfl (by kernel_rfl) rfl (fun w hS => K.QR.k (v := .slice (some ⟨b_36, 0, none⟩) ((K.spl 32 l).length) k_6) (by kernel_rfl)) (hS.pick [1]) ?_
            refine K.DW.q 9 (by kernel_rfl) rfl rfl (by kernel_rfl) rfl (fun w hS => K.QR.ix 3 1 rfl rfl rfl Tryd.underlying68 (by kernel_rfl) (by omega) (by first | (simp; done) | omega | (simp; omega))) (hS.pick [1]) ?_
            refine K.DW.q 10 (by kernel_rfl) rfl rfl (by kernel_rfl) rfl (fun w hS => K.QR.ld1 (v := .string (K.sb ((K.spl 32 l).getD 3 []))) rfl rfl (by kernel_rfl) (K.Own.atS (c := K.cStr) (d := []) (fun _ => rfl) (hS.ownr 0 rfl o_7) rfl 3 (by omega))) (hS.pick [1]) ?_
            refine K.DW.q 12 (by kernel_rfl) rfl rfl (by kernel_rfl) rfl (fun w hS => K.QR.k (v := .slice (some ⟨b_36, 0, none⟩) ((K.spl 32 l).length) k_6) (by kernel_rfl)) (hS.pick [1]) ?_
            refine K.DW.q 13 (by kernel_rfl) rfl rfl (by kernel_rfl) rfl (fun w hS => K.QR.ix 5 1 rfl rfl rfl Tryd.underlying68 (by kernel_rfl) (by omega) (by first | (simp; done) | omega | (simp; omega))) (hS.pick [1]) ?_
            refine K.DW.q 14 (by kernel_rfl) rfl rfl (by kernel_rfl) rfl (fun w hS => K.QR.ld1 (v := .string (K.sb ((K.spl 32 l).getD 5 []))) rfl rfl (by kernel_rfl) (K.Own.atS (c := K.cStr) (d := []) (fun _ => rfl) (hS.ownr 0 rfl o_7) rfl 5 (by omega))) (hS.pick [1]) ?_
            refine K.DW.l 3 rfl (by kernel_rfl) rfl (K.OW.gcall hS [] [0, 1, 2, 3] [.string (K.sb ((K.spl 32 l).getD 0 [])), .int .i64 63] (rnum_ok _ ((K.spl 32 l).getD 0 []) 63 (by omega) (by omega)) ?_)
            clear hS; rintro _ _ w ⟨rfl, rfl⟩ hS
            replace hS : K.Sat w0 [g5, g_5, g_2, fr] w := hS
            refine ⟨.inl (hS.pick [1]), ?_⟩
            refine K.DW.l 7 rfl (by kernel_rfl) rfl (K.OW.gcall hS [] [0, 1, 2, 3] [.string (K.sb ((K.spl 32 l).getD 2 [])), .int .i64 4294967295] (rnum_ok _ ((K.spl 32 l).getD 2 []) 4294967295 (by omega) (by omega)) ?_)
            clear hS; rintro _ _ w ⟨rfl, rfl⟩ hS
            replace hS : K.Sat w0 [g5, g_5, g_2, fr] w := hS
            refine ⟨.inl (hS.pick [1]), ?_⟩
            refine K.DW.l 11 rfl (by kernel_rfl) rfl (K.OW.gcall hS [] [0, 1, 2, 3] [.string (K.sb ((K.spl 32 l).getD 3 [])), .int .i64 4294967295] (rnum_ok _ ((K.spl 32 l).getD 3 []) 4294967295 (by omega) (by omega)) ?_)
            clear hS; rintro _ _ w ⟨rfl, rfl⟩ hS
            replace hS : K.Sat w0 [g5, g_5, g_2, fr] w := hS
            refine ⟨.inl (hS.pick [1]), ?_⟩
            refine K.DW.l 15 rfl (by kernel_rfl) rfl (K.OW.gcall hS [] [0, 1, 2, 3] [.string (K.sb ((K.spl 32 l).getD 5 [])), .int .i64 4294967295] (rnum_ok _ ((K.spl 32 l).getD 5 []) 4294967295 (by omega) (by omega)) ?_)
            clear hS; rintro _ _ w ⟨rfl, rfl⟩ hS
            replace hS : K.Sat w0 [g5, g_5, g_2, fr] w := hS
            refine ⟨.inl (hS.pick [1]), ?_⟩
            refine K.DW.l 16 rfl (by kernel_rfl) rfl (K.OW.gbs [(0, .int .i64 (numR ((K.spl 32 l).getD 0 []) 63)), (1, .int .i64 (numR ((K.spl 32 l).getD 2 []) 4294967295)), (2, .int .i64 (numR ((K.spl 32 l).getD 3 []) 4294967295)), (3, .int .i64 (numR ((K.spl 32 l).getD 5 []) 4294967295))] [.int .i64 (numR ((K.spl 32 l).getD 0 []) 63), .int .i64 (numR ((K.spl 32 l).getD 2 []) 4294967295), .int .i64 (numR ((K.spl 32 l).getD 3 []) 4294967295), .int .i64 (numR ((K.spl 32 l).getD 5 []) 4294967295)] hS (fun w => K.bs_run (P := Tryd.prog) w 78 3 4 _ _ Tryd.underlying78 (by kernel_rfl)) ?_)
            clear hS; intro w r_38 g_39 hg_40 hS
            refine ⟨.inl (hS.pick [2]), ?_⟩
            refine K.DW.l 17 rfl (by kernel_rfl) rfl (K.OW.q rfl (K.QR.k (v := .slice (some ⟨r_38, 0, none⟩) 4 4) (by kernel_rfl)) ?_)
            refine ⟨.inl (hS.pick [2]), ?_⟩
            refine K.DW.done (by kernel_rfl) ?_
            refine K.thn_normal ?_
            refine K.KW.seq ?_
            refine K.KW.seq ?_
            -- 17 :98
            refine K.KW.region ?_
            refine K.RW.qs [.int .i64 0] (by kernel_rfl) ?_
            refine K.RW.nil ?_
            refine K.thn_normal ?_
            refine K.KW.block ?_
            refine K.KW.unr 4 ?_
            refine K.Unr.succ ?_
            refine K.KW.seq ?_
            refine K.KW.seq ?_
            -- 18 :98
            refine K.KW.region ?_
            refine K.RW.qs [.int .i64 0, .bool true] (by kernel_rfl) ?_
            refine K.RW.nil ?_
            refine K.thn_normal ?_
            refine K.KW.ifT rfl ?_
            refine K.KW.skip ?_
            refine K.thn_normal ?_
            refine K.KW.seq ?_
            refine K.KW.block ?_
            refine K.KW.seq ?_
            -- 20 :99
            refine K.KW.region ?_
            refine K.RW.qs [.slice (some ⟨r_38, 0, none⟩) 4 4, .int .i64 0] (by kernel_rfl) ?_
            refine K.RW.q rfl rfl (K.QR.ix 0 1 rfl rfl rfl Tryd.underlying78 (by kernel_rfl) (by omega) (by first | (simp; done) | omega | (simp; omega))) ?_
            refine K.RW.q rfl rfl (K.QR.ld1 (v := .int .i64 (numR ((K.spl 32 l).getD 0 []) 63)) rfl rfl (by kernel_rfl) ((hS.blk 0 rfl hg_40).cell rfl)) ?_
            by_cases h_41 : ((numR ((K.spl 32 l).getD 0 []) 63) : Int) < (0 : Int)
            ·  -- yes
              refine K.RW.q rfl rfl (K.QR.nice (v := .bool (decide (((numR ((K.spl 32 l).getD 0 []) 63) : Int) < (0 : Int)))) (by kernel_rfl) (congrArg Value.bool (decide_eq_true h_41))) ?_
              refine K.RW.nil ?_
              refine K.thn_normal ?_
              refine K.KW.ifT rfl ?_
              refine K.KW.seq ?_
              -- 21 :100
              refine K.KW.region ?_
              refine K.RW.q rfl rfl (K.QR.bd [] [.int .i64 0, .int .i64 0, .int .u32 0, .int .u32 0, .int .i64 0, .int .u32 0, .int .i64 0, .int .i64 0, .int .i64 0, .bool false, .bool false] rfl rfl (by kernel_rfl)) ?_
              refine K.RW.l rfl (K.OW.gst 3 [.int .i64 0, .int .i64 0, .int .u32 0, .int .u32 0, .int .i64 0, .int .u32 0, .int .i64 0, .int .i64 0, .int .i64 0, .bool false, .bool false] [.int .i64 0, .int .i64 0, .int .u32 0, .int .u32 0, .int .i64 0, .int .u32 0, .int .i64 0, .int .i64 0, .int .i64 0, .bool false, .bool false] hS hg_3 ?_)
              clear hS; intro w g_42 hg_43 hS
              replace hS : K.Sat w0 [g_39, g5, g_5, g_42, fr] w := hS
              refine K.RW.qs [.bool false] (by kernel_rfl) ?_
              refine K.RW.nil ?_
              refine K.thn_normal ?_
              refine K.KW.ret ?_
              refine K.blk_ret ?_
              refine K.thn_ret ?_
              refine K.thn_ret ?_
              refine K.blk_ret ?_
              refine K.thn_ret ?_
              refine ⟨.inr rfl, rfl, (.tuple #[.agg #[.int .i64 0, .int .i64 0, .int .u32 0, .int .u32 0, .int .i64 0, .int .u32 0, .int .i64 0, .int .i64 0, .int .i64 0, .bool false, .bool false], .bool false]), K.resAt (rs := [.cell 2 29, .tmp 3]) [.agg #[.int .i64 0, .int .i64 0, .int .u32 0, .int .u32 0, .int .i64 0, .int .u32 0, .int .i64 0, .int .i64 0, .int .i64 0, .bool false, .bool false], .bool false] rfl ⟨⟨_, rfl, K.lvN [.int .i64 0, .int .i64 0, .int .u32 0, .int .u32 0, .int .i64 0, .int .u32 0, .int .i64 0, .int .i64 0, .int .i64 0, .bool false, .bool false] (by kernel_rfl) (by kernel_rfl) (K.cells (K.cl ((hS.blk 3 rfl hg_43).cell rfl) (K.cl ((hS.blk 3 rfl hg_43).cell rfl) (K.cl ((hS.blk 3 rfl hg_43).cell rfl) (K.cl ((hS.blk 3 rfl hg_43).cell rfl) (K.cl ((hS.blk 3 rfl hg_43).cell rfl) (K.cl ((hS.blk 3 rfl hg_43).cell rfl) (K.cl ((hS.blk 3 rfl hg_43).cell rfl) (K.cl ((hS.blk 3 rfl hg_43).cell rfl) (K.cl ((hS.blk 3 rfl hg_43).cell rfl) (K.cl ((hS.blk 3 rfl hg_43).cell rfl) (K.cl ((hS.blk 3 rfl hg_43).cell rfl) K.cl0))))))))))))⟩, rfl, trivial⟩, [], ?_, hS.pick [4]⟩
              exact ⟨rfl, .inr ⟨fun hh => by have h1 := hh.1; have h2 := hh.2.1; have h3 := hh.2.2.1; have h4 := hh.2.2.2.1; have h5 := hh.2.2.2.2.1; omega, rfl⟩⟩
            ·  -- no
              refine K.RW.q rfl rfl (K.QR.nice (v := .bool (decide (((numR ((K.spl 32 l).getD 0 []) 63) : Int) < (0 : Int)))) (by kernel_rfl) (congrArg Value.bool (decide_eq_false h_41))) ?_
              refine K.RW.nil ?_
              refine K.thn_normal ?_
              refine K.KW.ifF rfl ?_
              refine K.KW.skip ?_
              refine K.blk_normal ?_
              refine K.thn_normal ?_
              -- 19 :98
              refine K.KW.region ?_
              refine K.RW.qs [.int .i64 0, .int .i64 1, .int .i64 1] (by kernel_rfl) ?_
              refine K.RW.nil ?_
              refine K.thn_normal ?_
              refine K.Unr.succ ?_
              refine K.KW.seq ?_
              refine K.KW.seq ?_
              -- 18 :98
              refine K.KW.region ?_
              refine K.RW.qs [.int .i64 1, .bool true] (by kernel_rfl) ?_
              refine K.RW.nil ?_
              refine K.thn_normal ?_
              refine K.KW.ifT rfl ?_
              refine K.KW.skip ?_
              refine K.thn_normal ?_
              refine K.KW.seq ?_
              refine K.KW.block ?_
              refine K.KW.seq ?_
              -- 20 :99
              refine K.KW.region ?_
              refine K.RW.qs [.slice (some ⟨r_38, 0, none⟩) 4 4, .int .i64 1] (by kernel_rfl) ?_
              refine K.RW.q rfl rfl (K.QR.ix 1 1 rfl rfl rfl Tryd.underlying78 (by kernel_rfl) (by omega) (by first | (simp; done) | omega | (simp; omega))) ?_
              refine K.RW.q rfl rfl (K.QR.ld1 (v := .int .i64 (numR ((K.spl 32 l).getD 2 []) 4294967295)) rfl rfl (by kernel_rfl) ((hS.blk 0 rfl hg_40).cell rfl)) ?_
              by_cases h_44 : ((numR ((K.spl 32 l).getD 2 []) 4294967295) : Int) < (0 : Int)
              ·  -- yes
                refine K.RW.q rfl rfl (K.QR.nice (v := .bool (decide (((numR ((K.spl 32 l).getD 2 []) 4294967295) : Int) < (0 : Int)))) (by kernel_rfl) (congrArg Value.bool (decide_eq_true h_44))) ?_
                refine K.RW.nil ?_
                refine K.thn_normal ?_
                refine K.KW.ifT rfl ?_
                refine K.KW.seq ?_
                -- 21 :100
                refine K.KW.region ?_
                refine K.RW.q rfl rfl (K.QR.bd [] [.int .i64 0, .int .i64 0, .int .u32 0, .int .u32 0, .int .i64 0, .int .u32 0, .int .i64 0, .int .i64 0, .int .i64 0, .bool false, .bool false] rfl rfl (by kernel_rfl)) ?_
                refine K.RW.l rfl (K.OW.gst 3 [.int .i64 0, .int .i64 0, .int .u32 0, .int .u32 0, .int .i64 0, .int .u32 0, .int .i64 0, .int .i64 0, .int .i64 0, .bool false, .bool false] [.int .i64 0, .int .i64 0, .int .u32 0, .int .u32 0, .int .i64 0, .int .u32 0, .int .i64 0, .int .i64 0, .int .i64 0, .bool false, .bool false] hS hg_3 ?_)
                clear hS; intro w g_45 hg_46 hS
                replace hS : K.Sat w0 [g_39, g5, g_5, g_45, fr] w := hS
                refine K.RW.qs [.bool false] (by kernel_rfl) ?_
                refine K.RW.nil ?_
                refine K.thn_normal ?_
                refine K.KW.ret ?_
                refine K.blk_ret ?_
                refine K.thn_ret ?_
                refine K.thn_ret ?_
                refine K.blk_ret ?_
                refine K.thn_ret ?_
                refine ⟨.inr rfl, rfl, (.tuple #[.agg #[.int .i64 0, .int .i64 0, .int .u32 0, .int .u32 0, .int .i64 0, .int .u32 0, .int .i64 0, .int .i64 0, .int .i64 0, .bool false, .bool false], .bool false]), K.resAt (rs := [.cell 2 29, .tmp 3]) [.agg #[.int .i64 0, .int .i64 0, .int .u32 0, .int .u32 0, .int .i64 0, .int .u32 0, .int .i64 0, .int .i64 0, .int .i64 0, .bool false, .bool false], .bool false] rfl ⟨⟨_, rfl, K.lvN [.int .i64 0, .int .i64 0, .int .u32 0, .int .u32 0, .int .i64 0, .int .u32 0, .int .i64 0, .int .i64 0, .int .i64 0, .bool false, .bool false] (by kernel_rfl) (by kernel_rfl) (K.cells (K.cl ((hS.blk 3 rfl hg_46).cell rfl) (K.cl ((hS.blk 3 rfl hg_46).cell rfl) (K.cl ((hS.blk 3 rfl hg_46).cell rfl) (K.cl ((hS.blk 3 rfl hg_46).cell rfl) (K.cl ((hS.blk 3 rfl hg_46).cell rfl) (K.cl ((hS.blk 3 rfl hg_46).cell rfl) (K.cl ((hS.blk 3 rfl hg_46).cell rfl) (K.cl ((hS.blk 3 rfl hg_46).cell rfl) (K.cl ((hS.blk 3 rfl hg_46).cell rfl) (K.cl ((hS.blk 3 rfl hg_46).cell rfl) (K.cl ((hS.blk 3 rfl hg_46).cell rfl) K.cl0))))))))))))⟩, rfl, trivial⟩, [], ?_, hS.pick [4]⟩
                exact ⟨rfl, .inr ⟨fun hh => by have h1 := hh.1; have h2 := hh.2.1; have h3 := hh.2.2.1; have h4 := hh.2.2.2.1; have h5 := hh.2.2.2.2.1; omega, rfl⟩⟩
              ·  -- no
                refine K.RW.q rfl rfl (K.QR.nice (v := .bool (decide (((numR ((K.spl 32 l).getD 2 []) 4294967295) : Int) < (0 : Int)))) (by kernel_rfl) (congrArg Value.bool (decide_eq_false h_44))) ?_
                refine K.RW.nil ?_
                refine K.thn_normal ?_
                refine K.KW.ifF rfl ?_
                refine K.KW.skip ?_
                refine K.blk_normal ?_
                refine K.thn_normal ?_
                -- 19 :98
                refine K.KW.region ?_
                refine K.RW.qs [.int .i64 1, .int .i64 2, .int .i64 2] (by kernel_rfl) ?_
                refine K.RW.nil ?_
                refine K.thn_normal ?_
                refine K.Unr.succ ?_
                refine K.KW.seq ?_
                refine K.KW.seq ?_
                -- 18 :98
                refine K.KW.region ?_
                refine K.RW.qs [.int .i64 2, .bool true] (by kernel_rfl) ?_
                refine K.RW.nil ?_
                refine K.thn_normal ?_
                refine K.KW.ifT rfl ?_
                refine K.KW.skip ?_
                refine K.thn_normal ?_
                refine K.KW.seq ?_
                refine K.KW.block ?_
                refine K.KW.seq ?_
                -- 20 :99
                refine K.KW.region ?_
                refine K.RW.qs [.slice (some ⟨r_38, 0, none⟩) 4 4, .int .i64 2] (by kernel_rfl) ?_
                refine K.RW.q rfl rfl (K.QR.ix 2 1 rfl rfl rfl Tryd.underlying78 (by kernel_rfl) (by omega) (by first | (simp; done) | omega | (simp; omega))) ?_
                refine K.RW.q rfl rfl (K.QR.ld1 (v := .int .i64 (numR ((K.spl 32 l).getD 3 []) 4294967295)) rfl rfl (by kernel_rfl) ((hS.blk 0 rfl hg_40).cell rfl)) ?_
                by_cases h_47 : ((numR ((K.spl 32 l).getD 3 []) 4294967295) : Int) < (0 : Int)
                ·  -- yes
                  refine K.RW.q rfl rfl (K.QR.nice (v := .bool (decide (((numR ((K.spl 32 l).getD 3 []) 4294967295) : Int) < (0 : Int)))) (by kernel_rfl) (congrArg Value.bool (decide_eq_true h_47))) ?_
                  refine K.RW.nil ?_
                  refine K.thn_normal ?_
                  refine K.KW.ifT rfl ?_
                  refine K.KW.seq ?_
                  -- 21 :100
                  refine K.KW.region ?_
                  refine K.RW.q rfl rfl (K.QR.bd [] [.int .i64 0, .int .i64 0, .int .u32 0, .int .u32 0, .int .i64 0, .int .u32 0, .int .i64 0, .int .i64 0, .int .i64 0, .bool false, .bool false] rfl rfl (by kernel_rfl)) ?_
                  refine K.RW.l rfl (K.OW.gst 3 [.int .i64 0, .int .i64 0, .int .u32 0, .int .u32 0, .int .i64 0, .int .u32 0, .int .i64 0, .int .i64 0, .int .i64 0, .bool false, .bool false] [.int .i64 0, .int .i64 0, .int .u32 0, .int .u32 0, .int .i64 0, .int .u32 0, .int .i64 0, .int .i64 0, .int .i64 0, .bool false, .bool false] hS hg_3 ?_)
                  clear hS; intro w g_48 hg_49 hS
                  replace hS : K.Sat w0 [g_39, g5, g_5, g_48, fr] w := hS
                  refine K.RW.qs [.bool false] (by kernel_rfl) ?_
                  refine K.RW.nil ?_
                  refine K.thn_normal ?_
                  refine K.KW.ret ?_
                  refine K.blk_ret ?_
                  refine K.thn_ret ?_
                  refine K.thn_ret ?_
                  refine K.blk_ret ?_
                  refine K.thn_ret ?_
                  refine ⟨.inr rfl, rfl, (.tuple #[.agg #[.int .i64 0, .int .i64 0, .int .u32 0, .int .u32 0, .int .i64 0, .int .u32 0, .int .i64 0, .int .i64 0, .int .i64 0, .bool false, .bool false], .bool false]), K.resAt (rs := [.cell 2 29, .tmp 3]) [.agg #[.int .i64 0, .int .i64 0, .int .u32 0, .int .u32 0, .int .i64 0, .int .u32 0, .int .i64 0, .int .i64 0, .int .i64 0, .bool false, .bool false], .bool false] rfl ⟨⟨_, rfl, K.lvN [.int .i64 0, .int .i64 0, .int .u32 0, .int .u32 0, .int .i64 0, .int .u32 0, .int .i64 0, .int .i64 0, .int .i64 0, .bool false, .bool false] (by kernel_rfl) (by kernel_rfl) (K.cells (K.cl ((hS.blk 3 rfl hg_49).cell rfl) (K.cl ((hS.blk 3 rfl hg_49).cell rfl) (K.cl ((hS.blk 3 rfl hg_49).cell rfl) (K.cl ((hS.blk 3 rfl hg_49).cell rfl) (K.cl ((hS.blk 3 rfl hg_49).cell rfl) (K.cl ((hS.blk 3 rfl hg_49).cell rfl) (K.cl ((hS.blk 3 rfl hg_49).cell rfl) (K.cl ((hS.blk 3 rfl hg_49).cell rfl) (K.cl ((hS.blk 3 rfl hg_49).cell rfl) (K.cl ((hS.blk 3 rfl hg_49).cell rfl) (K.cl ((hS.blk 3 rfl hg_49).cell rfl) K.cl0))))))))))))⟩, rfl, trivial⟩, [], ?_, hS.pick [4]⟩
                  exact ⟨rfl, .inr ⟨fun hh => by have h1 := hh.1; have h2 := hh.2.1; have h3 := hh.2.2.1; have h4 := hh.2.2.2.1; have h5 := hh.2.2.2.2.1; omega, rfl⟩⟩
                ·  -- no
                  refine K.RW.q rfl rfl (K.QR.nice (v := .bool (decide (((numR ((K.spl 32 l).getD 3 []) 4294967295) : Int) < (0 : Int)))) (by kernel_rfl) (congrArg Value.bool (decide_eq_false h_47))) ?_
                  refine K.RW.nil ?_
                  refine K.thn_normal ?_
                  refine K.KW.ifF rfl ?_
                  refine K.KW.skip ?_
                  refine K.blk_normal ?_
                  refine K.thn_normal ?_
                  -- 19 :98
                  refine K.KW.region ?_
                  refine K.RW.qs [.int .i64 2, .int .i64 3, .int .i64 3] (by kernel_rfl) ?_
                  refine K.RW.nil ?_
                  refine K.thn_normal ?_
                  refine K.Unr.succ ?_
                  refine K.KW.seq ?_
                  refine K.KW.seq ?_
                  -- 18 :98
                  refine K.KW.region ?_
                  refine K.RW.qs [.int .i64 3, .bool true] (by kernel_rfl) ?_
                  refine K.RW.nil ?_
                  refine K.thn_normal ?_
                  refine K.KW.ifT rfl ?_
                  refine K.KW.skip ?_
                  refine K.thn_normal ?_
                  refine K.KW.seq ?_
                  refine K.KW.block ?_
                  refine K.KW.seq ?_
                  -- 20 :99
                  refine K.KW.region ?_
                  refine K.RW.qs [.slice (some ⟨r_38, 0, none⟩) 4 4, .int .i64 3] (by kernel_rfl) ?_
                  refine K.RW.q rfl rfl (K.QR.ix 3 1 rfl rfl rfl Tryd.underlying78 (by kernel_rfl) (by omega) (by first | (simp; done) | omega | (simp; omega))) ?_
                  refine K.RW.q rfl rfl (K.QR.ld1 (v := .int .i64 (numR ((K.spl 32 l).getD 5 []) 4294967295)) rfl rfl (by kernel_rfl) ((hS.blk 0 rfl hg_40).cell rfl)) ?_
                  by_cases h_50 : ((numR ((K.spl 32 l).getD 5 []) 4294967295) : Int) < (0 : Int)
                  ·  -- yes
                    refine K.RW.q rfl rfl (K.QR.nice (v := .bool (decide (((numR ((K.spl 32 l).getD 5 []) 4294967295) : Int) < (0 : Int)))) (by kernel_rfl) (congrArg Value.bool (decide_eq_true h_50))) ?_
                    refine K.RW.nil ?_
                    refine K.thn_normal ?_
                    refine K.KW.ifT rfl ?_
                    refine K.KW.seq ?_
                    -- 21 :100
                    refine K.KW.region ?_
                    refine K.RW.q rfl rfl (K.QR.bd [] [.int .i64 0, .int .i64 0, .int .u32 0, .int .u32 0, .int .i64 0, .int .u32 0, .int .i64 0, .int .i64 0, .int .i64 0, .bool false, .bool false] rfl rfl (by kernel_rfl)) ?_
                    refine K.RW.l rfl (K.OW.gst 3 [.int .i64 0, .int .i64 0, .int .u32 0, .int .u32 0, .int .i64 0, .int .u32 0, .int .i64 0, .int .i64 0, .int .i64 0, .bool false, .bool false] [.int .i64 0, .int .i64 0, .int .u32 0, .int .u32 0, .int .i64 0, .int .u32 0, .int .i64 0, .int .i64 0, .int .i64 0, .bool false, .bool false] hS hg_3 ?_)
                    clear hS; intro w g_51 hg_52 hS
                    replace hS : K.Sat w0 [g_39, g5, g_5, g_51, fr] w := hS
                    refine K.RW.qs [.bool false] (by kernel_rfl) ?_
                    refine K.RW.nil ?_
                    refine K.thn_normal ?_
                    refine K.KW.ret ?_
                    refine K.blk_ret ?_
                    refine K.thn_ret ?_
                    refine K.thn_ret ?_
                    refine K.blk_ret ?_
                    refine K.thn_ret ?_
                    refine ⟨.inr rfl, rfl, (.tuple #[.agg #[.int .i64 0, .int .i64 0, .int .u32 0, .int .u32 0, .int .i64 0, .int .u32 0, .int .i64 0, .int .i64 0, .int .i64 0, .bool false, .bool false], .bool false]), K.resAt (rs := [.cell 2 29, .tmp 3]) [.agg #[.int .i64 0, .int .i64 0, .int .u32 0, .int .u32 0, .int .i64 0, .int .u32 0, .int .i64 0, .int .i64 0, .int .i64 0, .bool false, .bool false], .bool false] rfl ⟨⟨_, rfl, K.lvN [.int .i64 0, .int .i64 0, .int .u32 0, .int .u32 0, .int .i64 0, .int .u32 0, .int .i64 0, .int .i64 0, .int .i64 0, .bool false, .bool false] (by kernel_rfl) (by kernel_rfl) (K.cells (K.cl ((hS.blk 3 rfl hg_52).cell rfl) (K.cl ((hS.blk 3 rfl hg_52).cell rfl) (K.cl ((hS.blk 3 rfl hg_52).cell rfl) (K.cl ((hS.blk 3 rfl hg_52).cell rfl) (K.cl ((hS.blk 3 rfl hg_52).cell rfl) (K.cl ((hS.blk 3 rfl hg_52).cell rfl) (K.cl ((hS.blk 3 rfl hg_52).cell rfl) (K.cl ((hS.blk 3 rfl hg_52).cell rfl) (K.cl ((hS.blk 3 rfl hg_52).cell rfl) (K.cl ((hS.blk 3 rfl hg_52).cell rfl) (K.cl ((hS.blk 3 rfl hg_52).cell rfl) K.cl0))))))))))))⟩, rfl, trivial⟩, [], ?_, hS.pick [4]⟩
                    exact ⟨rfl, .inr ⟨fun hh => by have h1 := hh.1; have h2 := hh.2.1; have h3 := hh.2.2.1; have h4 := hh.2.2.2.1; have h5 := hh.2.2.2.2.1; omega, rfl⟩⟩
                  ·  -- no
                    refine K.RW.q rfl rfl (K.QR.nice (v := .bool (decide (((numR ((K.spl 32 l).getD 5 []) 4294967295) : Int) < (0 : Int)))) (by kernel_rfl) (congrArg Value.bool (decide_eq_false h_50))) ?_
                    refine K.RW.nil ?_
                    refine K.thn_normal ?_
                    refine K.KW.ifF rfl ?_
                    refine K.KW.skip ?_
                    refine K.blk_normal ?_
                    refine K.thn_normal ?_
                    -- 19 :98
                    refine K.KW.region ?_
                    refine K.RW.qs [.int .i64 3, .int .i64 4, .int .i64 4] (by kernel_rfl) ?_
                    refine K.RW.nil ?_
                    refine K.thn_normal ?_
                    refine K.Unr.zero ?_
                    refine K.KW.seq ?_
                    refine K.KW.seq ?_
                    -- 18 :98
                    refine K.KW.region ?_
                    refine K.RW.qs [.int .i64 4, .bool false] (by kernel_rfl) ?_
                    refine K.RW.nil ?_
                    refine K.thn_normal ?_
                    refine K.KW.ifF rfl ?_
                    refine K.KW.exit ?_
                    refine K.thn_exit ?_
                    refine K.thn_exit ?_
                    refine K.blk_hit ?_
                    refine K.thn_normal ?_
                    refine K.KW.seq ?_
                    -- 22 :103
                    refine K.KW.region ?_
                    refine K.RW.qs [.slice (some ⟨r_38, 0, none⟩) 4 4] (by kernel_rfl) ?_
                    refine K.RW.q rfl rfl (K.QR.ix 0 1 rfl rfl rfl Tryd.underlying78 (by kernel_rfl) (by omega) (by first | (simp; done) | omega | (simp; omega))) ?_
                    refine K.RW.q rfl rfl (K.QR.ld1 (v := .int .i64 (numR ((K.spl 32 l).getD 0 []) 63)) rfl rfl (by kernel_rfl) ((hS.blk 0 rfl hg_40).cell rfl)) ?_
                    refine K.RW.qs [.pointer (some ⟨r_9, 0, none⟩)] (by kernel_rfl) ?_
                    refine K.RW.l rfl (K.OW.gst 1 [.int .i64 (numR ((K.spl 32 l).getD 0 []) 63)] [.int .i64 (numR ((K.spl 32 l).getD 0 []) 63), .int .i64 kd, .int .u32 0, .int .u32 0, .int .i64 rk, .int .u32 0, .int .i64 0, .int .i64 0, .int .i64 0, .bool false, .bool false] hS x_29 ?_)
                    clear hS; intro w g_53 hg_54 hS
                    replace hS : K.Sat w0 [g_39, g_53, g_5, g_2, fr] w := hS
                    refine K.RW.nil ?_
                    refine K.thn_normal ?_
                    refine K.KW.seq ?_
                    -- 23 :104
                    refine K.KW.region ?_
                    refine K.RW.qs [.slice (some ⟨r_38, 0, none⟩) 4 4] (by kernel_rfl) ?_
                    refine K.RW.q rfl rfl (K.QR.ix 1 1 rfl rfl rfl Tryd.underlying78 (by kernel_rfl) (by omega) (by first | (simp; done) | omega | (simp; omega))) ?_
                    refine K.RW.q rfl rfl (K.QR.ld1 (v := .int .i64 (numR ((K.spl 32 l).getD 2 []) 4294967295)) rfl rfl (by kernel_rfl) ((hS.blk 0 rfl hg_40).cell rfl)) ?_
                    refine K.RW.qs [.int .u32 (IntKind.u32.wrap (numR ((K.spl 32 l).getD 2 []) 4294967295)), .pointer (some ⟨r_9, 1, none⟩), .pointer (some ⟨r_9, 2, none⟩)] (by kernel_rfl) ?_
                    refine K.RW.l rfl (K.OW.gst 1 [.int .u32 (IntKind.u32.wrap (numR ((K.spl 32 l).getD 2 []) 4294967295))] [.int .i64 (numR ((K.spl 32 l).getD 0 []) 63), .int .i64 kd, .int .u32 (IntKind.u32.wrap (numR ((K.spl 32 l).getD 2 []) 4294967295)), .int .u32 0, .int .i64 rk, .int .u32 0, .int .i64 0, .int .i64 0, .int .i64 0, .bool false, .bool false] hS hg_54 ?_)
                    clear hS; intro w g_55 hg_56 hS
                    replace hS : K.Sat w0 [g_39, g_55, g_5, g_2, fr] w := hS
                    refine K.RW.nil ?_
                    refine K.thn_normal ?_
                    refine K.KW.seq ?_
                    -- 24 :105
                    refine K.KW.region ?_
                    refine K.RW.qs [.slice (some ⟨r_38, 0, none⟩) 4 4] (by kernel_rfl) ?_
                    refine K.RW.q rfl rfl (K.QR.ix 2 1 rfl rfl rfl Tryd.underlying78 (by kernel_rfl) (by omega) (by first | (simp; done) | omega | (simp; omega))) ?_
                    refine K.RW.q rfl rfl (K.QR.ld1 (v := .int .i64 (numR ((K.spl 32 l).getD 3 []) 4294967295)) rfl rfl (by kernel_rfl) ((hS.blk 0 rfl hg_40).cell rfl)) ?_
                    refine K.RW.qs [.int .u32 (IntKind.u32.wrap (numR ((K.spl 32 l).getD 3 []) 4294967295)), .pointer (some ⟨r_9, 1, none⟩), .pointer (some ⟨r_9, 3, none⟩)] (by kernel_rfl) ?_
                    refine K.RW.l rfl (K.OW.gst 1 [.int .u32 (IntKind.u32.wrap (numR ((K.spl 32 l).getD 3 []) 4294967295))] [.int .i64 (numR ((K.spl 32 l).getD 0 []) 63), .int .i64 kd, .int .u32 (IntKind.u32.wrap (numR ((K.spl 32 l).getD 2 []) 4294967295)), .int .u32 (IntKind.u32.wrap (numR ((K.spl 32 l).getD 3 []) 4294967295)), .int .i64 rk, .int .u32 0, .int .i64 0, .int .i64 0, .int .i64 0, .bool false, .bool false] hS hg_56 ?_)
                    clear hS; intro w g_57 hg_58 hS
                    replace hS : K.Sat w0 [g_39, g_57, g_5, g_2, fr] w := hS
                    refine K.RW.nil ?_
                    refine K.thn_normal ?_
                    refine K.KW.seq ?_
                    -- 25 :106
                    refine K.KW.region ?_
                    refine K.RW.qs [.slice (some ⟨r_38, 0, none⟩) 4 4] (by kernel_rfl) ?_
                    refine K.RW.q rfl rfl (K.QR.ix 3 1 rfl rfl rfl Tryd.underlying78 (by kernel_rfl) (by omega) (by first | (simp; done) | omega | (simp; omega))) ?_
                    refine K.RW.q rfl rfl (K.QR.ld1 (v := .int .i64 (numR ((K.spl 32 l).getD 5 []) 4294967295)) rfl rfl (by kernel_rfl) ((hS.blk 0 rfl hg_40).cell rfl)) ?_
                    refine K.RW.qs [.int .u32 (IntKind.u32.wrap (numR ((K.spl 32 l).getD 5 []) 4294967295)), .pointer (some ⟨r_9, 4, none⟩), .pointer (some ⟨r_9, 5, none⟩)] (by kernel_rfl) ?_
                    refine K.RW.l rfl (K.OW.gst 1 [.int .u32 (IntKind.u32.wrap (numR ((K.spl 32 l).getD 5 []) 4294967295))] [.int .i64 (numR ((K.spl 32 l).getD 0 []) 63), .int .i64 kd, .int .u32 (IntKind.u32.wrap (numR ((K.spl 32 l).getD 2 []) 4294967295)), .int .u32 (IntKind.u32.wrap (numR ((K.spl 32 l).getD 3 []) 4294967295)), .int .i64 rk, .int .u32 (IntKind.u32.wrap (numR ((K.spl 32 l).getD 5 []) 4294967295)), .int .i64 0, .int .i64 0, .int .i64 0, .bool false, .bool false] hS hg_58 ?_)
                    clear hS; intro w g_59 hg_60 hS
                    replace hS : K.Sat w0 [g_39, g_59, g_5, g_2, fr] w := hS
                    refine K.RW.nil ?_
                    refine K.thn_normal ?_
                    refine K.KW.seq ?_
                    -- 26 :107
                    refine K.KW.region ?_
                    refine K.RW.qs [.slice (some ⟨b_36, 0, none⟩) ((K.spl 32 l).length) k_6] (by kernel_rfl) ?_
                    refine K.RW.q rfl rfl (K.QR.ix 6 1 rfl rfl rfl Tryd.underlying68 (by kernel_rfl) (by omega) (by first | (simp; done) | omega | (simp; omega))) ?_
                    refine K.RW.q rfl rfl (K.QR.ld1 (v := .string (K.sb ((K.spl 32 l).getD 6 []))) rfl rfl (by kernel_rfl) (K.Own.atS (c := K.cStr) (d := []) (fun _ => rfl) (hS.ownr 2 rfl o_7) rfl 6 (by omega))) ?_
                    refine K.RW.l rfl (K.OW.gcall hS [] [0, 1, 2, 3, 4] [.string (K.sb ((K.spl 32 l).getD 6 []))] (rwhen_ok _ ((K.spl 32 l).getD 6 []) (by omega)) ?_)
                    clear hS; rintro _ _ w ⟨rfl, rfl⟩ hS
                    replace hS : K.Sat w0 [g_39, g_59, g_5, g_2, fr] w := hS
                    refine K.RW.qs [.pointer (some ⟨r_9, 6, none⟩)] (by kernel_rfl) ?_
                    refine K.RW.l rfl (K.OW.gst 1 [.int .i64 (whenT ((K.spl 32 l).getD 6 []))] [.int .i64 (numR ((K.spl 32 l).getD 0 []) 63), .int .i64 kd, .int .u32 (IntKind.u32.wrap (numR ((K.spl 32 l).getD 2 []) 4294967295)), .int .u32 (IntKind.u32.wrap (numR ((K.spl 32 l).getD 3 []) 4294967295)), .int .i64 rk, .int .u32 (IntKind.u32.wrap (numR ((K.spl 32 l).getD 5 []) 4294967295)), .int .i64 (whenT ((K.spl 32 l).getD 6 [])), .int .i64 0, .int .i64 0, .bool false, .bool false] hS hg_60 ?_)
                    clear hS; intro w g_61 hg_62 hS
                    replace hS : K.Sat w0 [g_39, g_61, g_5, g_2, fr] w := hS
                    refine K.RW.nil ?_
                    refine K.thn_normal ?_
                    refine K.KW.seq ?_
                    -- 27 :108
                    refine K.KW.region ?_
                    refine K.RW.qs [.slice (some ⟨b_36, 0, none⟩) ((K.spl 32 l).length) k_6] (by kernel_rfl) ?_
                    refine K.RW.q rfl rfl (K.QR.ix 7 1 rfl rfl rfl Tryd.underlying68 (by kernel_rfl) (by omega) (by first | (simp; done) | omega | (simp; omega))) ?_
                    refine K.RW.q rfl rfl (K.QR.ld1 (v := .string (K.sb ((K.spl 32 l).getD 7 []))) rfl rfl (by kernel_rfl) (K.Own.atS (c := K.cStr) (d := []) (fun _ => rfl) (hS.ownr 2 rfl o_7) rfl 7 (by omega))) ?_
                    refine K.RW.l rfl (K.OW.gcall hS [] [0, 1, 2, 3, 4] [.string (K.sb ((K.spl 32 l).getD 7 []))] (rwhen_ok _ ((K.spl 32 l).getD 7 []) (by omega)) ?_)
                    clear hS; rintro _ _ w ⟨rfl, rfl⟩ hS
                    replace hS : K.Sat w0 [g_39, g_61, g_5, g_2, fr] w := hS
                    refine K.RW.qs [.pointer (some ⟨r_9, 8, none⟩)] (by kernel_rfl) ?_
                    refine K.RW.l rfl (K.OW.gst 1 [.int .i64 (whenT ((K.spl 32 l).getD 7 []))] [.int .i64 (numR ((K.spl 32 l).getD 0 []) 63), .int .i64 kd, .int .u32 (IntKind.u32.wrap (numR ((K.spl 32 l).getD 2 []) 4294967295)), .int .u32 (IntKind.u32.wrap (numR ((K.spl 32 l).getD 3 []) 4294967295)), .int .i64 rk, .int .u32 (IntKind.u32.wrap (numR ((K.spl 32 l).getD 5 []) 4294967295)), .int .i64 (whenT ((K.spl 32 l).getD 6 [])), .int .i64 0, .int .i64 (whenT ((K.spl 32 l).getD 7 [])), .bool false, .bool false] hS hg_62 ?_)
                    clear hS; intro w g_63 hg_64 hS
                    replace hS : K.Sat w0 [g_39, g_63, g_5, g_2, fr] w := hS
                    refine K.RW.nil ?_
                    refine K.thn_normal ?_
                    refine K.KW.seq ?_
                    -- 28 :109
                    refine K.KW.region ?_
                    refine K.RW.qs [.slice (some ⟨b_36, 0, none⟩) ((K.spl 32 l).length) k_6] (by kernel_rfl) ?_
                    refine K.RW.q rfl rfl (K.QR.ix 8 1 rfl rfl rfl Tryd.underlying68 (by kernel_rfl) (by omega) (by first | (simp; done) | omega | (simp; omega))) ?_
                    refine K.RW.q rfl rfl (K.QR.ld1 (v := .string (K.sb ((K.spl 32 l).getD 8 []))) rfl rfl (by kernel_rfl) (K.Own.atS (c := K.cStr) (d := []) (fun _ => rfl) (hS.ownr 2 rfl o_7) rfl 8 (by omega))) ?_
                    refine K.RW.l rfl (K.OW.gcall hS [] [0, 1, 2, 3, 4] [.string (K.sb ((K.spl 32 l).getD 8 []))] (rwhen_ok _ ((K.spl 32 l).getD 8 []) (by omega)) ?_)
                    clear hS; rintro _ _ w ⟨rfl, rfl⟩ hS
                    replace hS : K.Sat w0 [g_39, g_63, g_5, g_2, fr] w := hS
                    refine K.RW.qs [.pointer (some ⟨r_9, 7, none⟩)] (by kernel_rfl) ?_
                    refine K.RW.l rfl (K.OW.gst 1 [.int .i64 (whenT ((K.spl 32 l).getD 8 []))] [.int .i64 (numR ((K.spl 32 l).getD 0 []) 63), .int .i64 kd, .int .u32 (IntKind.u32.wrap (numR ((K.spl 32 l).getD 2 []) 4294967295)), .int .u32 (IntKind.u32.wrap (numR ((K.spl 32 l).getD 3 []) 4294967295)), .int .i64 rk, .int .u32 (IntKind.u32.wrap (numR ((K.spl 32 l).getD 5 []) 4294967295)), .int .i64 (whenT ((K.spl 32 l).getD 6 [])), .int .i64 (whenT ((K.spl 32 l).getD 8 [])), .int .i64 (whenT ((K.spl 32 l).getD 7 [])), .bool false, .bool false] hS hg_64 ?_)
                    clear hS; intro w g_65 hg_66 hS
                    replace hS : K.Sat w0 [g_39, g_65, g_5, g_2, fr] w := hS
                    refine K.RW.nil ?_
                    refine K.thn_normal ?_
                    refine K.KW.seq ?_
                    -- 29 :110
                    refine K.KW.region ?_
                    refine K.RW.qs [.slice (some ⟨b_36, 0, none⟩) ((K.spl 32 l).length) k_6] (by kernel_rfl) ?_
                    refine K.RW.q rfl rfl (K.QR.ix 9 1 rfl rfl rfl Tryd.underlying68 (by kernel_rfl) (by omega) (by first | (simp; done) | omega | (simp; omega))) ?_
                    refine K.RW.q rfl rfl (K.QR.ld1 (v := .string (K.sb ((K.spl 32 l).getD 9 []))) rfl rfl (by kernel_rfl) (K.Own.atS (c := K.cStr) (d := []) (fun _ => rfl) (hS.ownr 2 rfl o_7) rfl 9 (by omega))) ?_
                    by_cases h_67 : ((K.spl 32 l).getD 9 []) = ([99, 114, 97, 115, 104, 101, 100] : List UInt8)
                    ·  -- yes
                      refine K.RW.q rfl rfl (K.QR.sEq (xs := (K.spl 32 l).getD 9 []) (ys := [99, 114, 97, 115, 104, 101, 100]) true rfl rfl rfl (K.deq_t h_67)) ?_
                      refine K.RW.qs [.bool true] (by kernel_rfl) ?_
                      refine K.RW.skip rfl (by kernel_rfl) ?_
                      refine K.RW.skip rfl (by kernel_rfl) ?_
                      refine K.RW.skip rfl (by kernel_rfl) ?_
                      refine K.RW.skip rfl (by kernel_rfl) ?_
                      refine K.RW.qs [.bool true, .pointer (some ⟨r_9, 9, none⟩)] (by kernel_rfl) ?_
                      refine K.RW.l rfl (K.OW.gst 1 [.bool true] [.int .i64 (numR ((K.spl 32 l).getD 0 []) 63), .int .i64 kd, .int .u32 (IntKind.u32.wrap (numR ((K.spl 32 l).getD 2 []) 4294967295)), .int .u32 (IntKind.u32.wrap (numR ((K.spl 32 l).getD 3 []) 4294967295)), .int .i64 rk, .int .u32 (IntKind.u32.wrap (numR ((K.spl 32 l).getD 5 []) 4294967295)), .int .i64 (whenT ((K.spl 32 l).getD 6 [])), .int .i64 (whenT ((K.spl 32 l).getD 8 [])), .int .i64 (whenT ((K.spl 32 l).getD 7 [])), .bool true, .bool false] hS hg_66 ?_)
                      clear hS; intro w g_68 hg_69 hS
                      replace hS : K.Sat w0 [g_39, g_68, g_5, g_2, fr] w := hS
                      refine K.RW.nil ?_
                      refine K.thn_normal ?_
                      refine K.KW.seq ?_
                      -- 30 :111
                      refine K.KW.region ?_
                      refine K.RW.qs [.slice (some ⟨b_36, 0, none⟩) ((K.spl 32 l).length) k_6] (by kernel_rfl) ?_
                      refine K.RW.q rfl rfl (K.QR.ix 9 1 rfl rfl rfl Tryd.underlying68 (by kernel_rfl) (by omega) (by first | (simp; done) | omega | (simp; omega))) ?_
                      refine K.RW.q rfl rfl (K.QR.ld1 (v := .string (K.sb ((K.spl 32 l).getD 9 []))) rfl rfl (by kernel_rfl) (K.Own.atS (c := K.cStr) (d := []) (fun _ => rfl) (hS.ownr 2 rfl o_7) rfl 9 (by omega))) ?_
                      by_cases h_70 : ((K.spl 32 l).getD 9 []) = ([107, 101, 112, 116] : List UInt8)
                      ·  -- yes
                        refine K.RW.q rfl rfl (K.QR.sEq (xs := (K.spl 32 l).getD 9 []) (ys := [107, 101, 112, 116]) true rfl rfl rfl (K.deq_t h_70)) ?_
                        refine K.RW.qs [.pointer (some ⟨r_9, 10, none⟩)] (by kernel_rfl) ?_
                        refine K.RW.l rfl (K.OW.gst 1 [.bool true] [.int .i64 (numR ((K.spl 32 l).getD 0 []) 63), .int .i64 kd, .int .u32 (IntKind.u32.wrap (numR ((K.spl 32 l).getD 2 []) 4294967295)), .int .u32 (IntKind.u32.wrap (numR ((K.spl 32 l).getD 3 []) 4294967295)), .int .i64 rk, .int .u32 (IntKind.u32.wrap (numR ((K.spl 32 l).getD 5 []) 4294967295)), .int .i64 (whenT ((K.spl 32 l).getD 6 [])), .int .i64 (whenT ((K.spl 32 l).getD 8 [])), .int .i64 (whenT ((K.spl 32 l).getD 7 [])), .bool true, .bool true] hS hg_69 ?_)
                        clear hS; intro w g_71 hg_72 hS
                        replace hS : K.Sat w0 [g_39, g_71, g_5, g_2, fr] w := hS
                        refine K.RW.nil ?_
                        refine K.thn_normal ?_
                        refine K.KW.seq ?_
                        refine K.KW.seq ?_
                        -- 31 :112
                        refine K.KW.region ?_
                        refine K.RW.q rfl rfl (K.QR.ldN [.int .i64 (numR ((K.spl 32 l).getD 0 []) 63), .int .i64 kd, .int .u32 (IntKind.u32.wrap (numR ((K.spl 32 l).getD 2 []) 4294967295)), .int .u32 (IntKind.u32.wrap (numR ((K.spl 32 l).getD 3 []) 4294967295)), .int .i64 rk, .int .u32 (IntKind.u32.wrap (numR ((K.spl 32 l).getD 5 []) 4294967295)), .int .i64 (whenT ((K.spl 32 l).getD 6 [])), .int .i64 (whenT ((K.spl 32 l).getD 8 [])), .int .i64 (whenT ((K.spl 32 l).getD 7 [])), .bool true, .bool true] rfl rfl (by kernel_rfl) (by kernel_rfl) (K.cells (K.cl ((hS.blk 1 rfl hg_72).cell rfl) (K.cl ((hS.blk 1 rfl hg_72).cell rfl) (K.cl ((hS.blk 1 rfl hg_72).cell rfl) (K.cl ((hS.blk 1 rfl hg_72).cell rfl) (K.cl ((hS.blk 1 rfl hg_72).cell rfl) (K.cl ((hS.blk 1 rfl hg_72).cell rfl) (K.cl ((hS.blk 1 rfl hg_72).cell rfl) (K.cl ((hS.blk 1 rfl hg_72).cell rfl) (K.cl ((hS.blk 1 rfl hg_72).cell rfl) (K.cl ((hS.blk 1 rfl hg_72).cell rfl) (K.cl ((hS.blk 1 rfl hg_72).cell rfl) K.cl0))))))))))))) ?_
                        refine K.RW.l rfl (K.OW.gcall hS [] [0, 1, 2, 3, 4] [.agg #[.int .i64 (numR ((K.spl 32 l).getD 0 []) 63), .int .i64 kd, .int .u32 (IntKind.u32.wrap (numR ((K.spl 32 l).getD 2 []) 4294967295)), .int .u32 (IntKind.u32.wrap (numR ((K.spl 32 l).getD 3 []) 4294967295)), .int .i64 rk, .int .u32 (IntKind.u32.wrap (numR ((K.spl 32 l).getD 5 []) 4294967295)), .int .i64 (whenT ((K.spl 32 l).getD 6 [])), .int .i64 (whenT ((K.spl 32 l).getD 8 [])), .int .i64 (whenT ((K.spl 32 l).getD 7 [])), .bool true, .bool true]] (rmay_ok _ (⟨(numR ((K.spl 32 l).getD 0 []) 63), kd, IntKind.u32.wrap (numR ((K.spl 32 l).getD 2 []) 4294967295), IntKind.u32.wrap (numR ((K.spl 32 l).getD 3 []) 4294967295), rk, IntKind.u32.wrap (numR ((K.spl 32 l).getD 5 []) 4294967295), (whenT ((K.spl 32 l).getD 6 [])), (whenT ((K.spl 32 l).getD 8 [])), (whenT ((K.spl 32 l).getD 7 [])), true, true⟩ : CallM)) ?_)
                        clear hS; rintro _ _ w ⟨rfl, (⟨h_73, rfl⟩ | ⟨h_74, rfl⟩)⟩ hS
                        ·
                          replace hS : K.Sat w0 [g_39, g_71, g_5, g_2, fr] w := hS
                          refine K.RW.qs [.bool false, .bool false] (by kernel_rfl) ?_
                          refine K.RW.q rfl (by kernel_rfl) (K.QR.ldN [.int .i64 (numR ((K.spl 32 l).getD 0 []) 63), .int .i64 kd, .int .u32 (IntKind.u32.wrap (numR ((K.spl 32 l).getD 2 []) 4294967295)), .int .u32 (IntKind.u32.wrap (numR ((K.spl 32 l).getD 3 []) 4294967295)), .int .i64 rk, .int .u32 (IntKind.u32.wrap (numR ((K.spl 32 l).getD 5 []) 4294967295)), .int .i64 (whenT ((K.spl 32 l).getD 6 [])), .int .i64 (whenT ((K.spl 32 l).getD 8 [])), .int .i64 (whenT ((K.spl 32 l).getD 7 [])), .bool true, .bool true] rfl rfl (by kernel_rfl) (by kernel_rfl) (K.cells (K.cl ((hS.blk 1 rfl hg_72).cell rfl) (K.cl ((hS.blk 1 rfl hg_72).cell rfl) (K.cl ((hS.blk 1 rfl hg_72).cell rfl) (K.cl ((hS.blk 1 rfl hg_72).cell rfl) (K.cl ((hS.blk 1 rfl hg_72).cell rfl) (K.cl ((hS.blk 1 rfl hg_72).cell rfl) (K.cl ((hS.blk 1 rfl hg_72).cell rfl) (K.cl ((hS.blk 1 rfl hg_72).cell rfl) (K.cl ((hS.blk 1 rfl hg_72).cell rfl) (K.cl ((hS.blk 1 rfl hg_72).cell rfl) (K.cl ((hS.blk 1 rfl hg_72).cell rfl) K.cl0))))))))))))) ?_
                          refine K.RW.l (by kernel_rfl) (K.OW.gcall hS [] [0, 1, 2, 3, 4] [.agg #[.int .i64 (numR ((K.spl 32 l).getD 0 []) 63), .int .i64 kd, .int .u32 (IntKind.u32.wrap (numR ((K.spl 32 l).getD 2 []) 4294967295)), .int .u32 (IntKind.u32.wrap (numR ((K.spl 32 l).getD 3 []) 4294967295)), .int .i64 rk, .int .u32 (IntKind.u32.wrap (numR ((K.spl 32 l).getD 5 []) 4294967295)), .int .i64 (whenT ((K.spl 32 l).getD 6 [])), .int .i64 (whenT ((K.spl 32 l).getD 8 [])), .int .i64 (whenT ((K.spl 32 l).getD 7 [])), .bool true, .bool true]] (rline_ok _ (⟨(numR ((K.spl 32 l).getD 0 []) 63), kd, IntKind.u32.wrap (numR ((K.spl 32 l).getD 2 []) 4294967295), IntKind.u32.wrap (numR ((K.spl 32 l).getD 3 []) 4294967295), rk, IntKind.u32.wrap (numR ((K.spl 32 l).getD 5 []) 4294967295), (whenT ((K.spl 32 l).getD 6 [])), (whenT ((K.spl 32 l).getD 8 [])), (whenT ((K.spl 32 l).getD 7 [])), true, true⟩ : CallM) (may_fits (by assumption)) (by assumption)) ?_)
                          clear hS; rintro _ _ w ⟨rfl, rfl⟩ hS
                          replace hS : K.Sat w0 [g_39, g_71, g_5, g_2, fr] w := hS
                          refine K.RW.qs [.string (K.sb l)] (by kernel_rfl) ?_
                          by_cases h_75 : (lineR (⟨(numR ((K.spl 32 l).getD 0 []) 63), kd, IntKind.u32.wrap (numR ((K.spl 32 l).getD 2 []) 4294967295), IntKind.u32.wrap (numR ((K.spl 32 l).getD 3 []) 4294967295), rk, IntKind.u32.wrap (numR ((K.spl 32 l).getD 5 []) 4294967295), (whenT ((K.spl 32 l).getD 6 [])), (whenT ((K.spl 32 l).getD 8 [])), (whenT ((K.spl 32 l).getD 7 [])), true, true⟩ : CallM)) = l
                          ·  -- yes
                            refine K.RW.q rfl (by kernel_rfl) (K.QR.sNe (xs := (lineR (⟨(numR ((K.spl 32 l).getD 0 []) 63), kd, IntKind.u32.wrap (numR ((K.spl 32 l).getD 2 []) 4294967295), IntKind.u32.wrap (numR ((K.spl 32 l).getD 3 []) 4294967295), rk, IntKind.u32.wrap (numR ((K.spl 32 l).getD 5 []) 4294967295), (whenT ((K.spl 32 l).getD 6 [])), (whenT ((K.spl 32 l).getD 8 [])), (whenT ((K.spl 32 l).getD 7 [])), true, true⟩ : CallM))) (ys := l) false rfl rfl rfl (K.ndeq_t h_75)) ?_
                            refine K.RW.qs [.bool false] (by kernel_rfl) ?_
                            refine K.RW.nil ?_
                            refine K.thn_normal ?_
                            refine K.KW.ifF rfl ?_
                            refine K.KW.skip ?_
                            refine K.thn_normal ?_
                            refine K.KW.seq ?_
                            -- 33 :115
                            refine K.KW.region ?_
                            refine K.RW.q rfl rfl (K.QR.ldN [.int .i64 (numR ((K.spl 32 l).getD 0 []) 63), .int .i64 kd, .int .u32 (IntKind.u32.wrap (numR ((K.spl 32 l).getD 2 []) 4294967295)), .int .u32 (IntKind.u32.wrap (numR ((K.spl 32 l).getD 3 []) 4294967295)), .int .i64 rk, .int .u32 (IntKind.u32.wrap (numR ((K.spl 32 l).getD 5 []) 4294967295)), .int .i64 (whenT ((K.spl 32 l).getD 6 [])), .int .i64 (whenT ((K.spl 32 l).getD 8 [])), .int .i64 (whenT ((K.spl 32 l).getD 7 [])), .bool true, .bool true] rfl rfl (by kernel_rfl) (by kernel_rfl) (K.cells (K.cl ((hS.blk 1 rfl hg_72).cell rfl) (K.cl ((hS.blk 1 rfl hg_72).cell rfl) (K.cl ((hS.blk 1 rfl hg_72).cell rfl) (K.cl ((hS.blk 1 rfl hg_72).cell rfl) (K.cl ((hS.blk 1 rfl hg_72).cell rfl) (K.cl ((hS.blk 1 rfl hg_72).cell rfl) (K.cl ((hS.blk 1 rfl hg_72).cell rfl) (K.cl ((hS.blk 1 rfl hg_72).cell rfl) (K.cl ((hS.blk 1 rfl hg_72).cell rfl) (K.cl ((hS.blk 1 rfl hg_72).cell rfl) (K.cl ((hS.blk 1 rfl hg_72).cell rfl) K.cl0))))))))))))) ?_
                            refine K.RW.l rfl (K.OW.gst 3 [.int .i64 (numR ((K.spl 32 l).getD 0 []) 63), .int .i64 kd, .int .u32 (IntKind.u32.wrap (numR ((K.spl 32 l).getD 2 []) 4294967295)), .int .u32 (IntKind.u32.wrap (numR ((K.spl 32 l).getD 3 []) 4294967295)), .int .i64 rk, .int .u32 (IntKind.u32.wrap (numR ((K.spl 32 l).getD 5 []) 4294967295)), .int .i64 (whenT ((K.spl 32 l).getD 6 [])), .int .i64 (whenT ((K.spl 32 l).getD 8 [])), .int .i64 (whenT ((K.spl 32 l).getD 7 [])), .bool true, .bool true] [.int .i64 (numR ((K.spl 32 l).getD 0 []) 63), .int .i64 kd, .int .u32 (IntKind.u32.wrap (numR ((K.spl 32 l).getD 2 []) 4294967295)), .int .u32 (IntKind.u32.wrap (numR ((K.spl 32 l).getD 3 []) 4294967295)), .int .i64 rk, .int .u32 (IntKind.u32.wrap (numR ((K.spl 32 l).getD 5 []) 4294967295)), .int .i64 (whenT ((K.spl 32 l).getD 6 [])), .int .i64 (whenT ((K.spl 32 l).getD 8 [])), .int .i64 (whenT ((K.spl 32 l).getD 7 [])), .bool true, .bool true] hS hg_3 ?_)
                            clear hS; intro w g_76 hg_77 hS
                            replace hS : K.Sat w0 [g_39, g_71, g_5, g_76, fr] w := hS
                            refine K.RW.qs [.bool true] (by kernel_rfl) ?_
                            refine K.RW.nil ?_
                            refine K.thn_normal ?_
                            refine K.KW.ret ?_
                            have hE := rdT_eq (W := K.spl 32 l) hkd8 hrk6 (crk h_67) (decide_eq_true h_70)
                            refine ⟨.inr rfl, rfl, (.tuple #[.agg #[.int .i64 (numR ((K.spl 32 l).getD 0 []) 63), .int .i64 kd, .int .u32 (IntKind.u32.wrap (numR ((K.spl 32 l).getD 2 []) 4294967295)), .int .u32 (IntKind.u32.wrap (numR ((K.spl 32 l).getD 3 []) 4294967295)), .int .i64 rk, .int .u32 (IntKind.u32.wrap (numR ((K.spl 32 l).getD 5 []) 4294967295)), .int .i64 (whenT ((K.spl 32 l).getD 6 [])), .int .i64 (whenT ((K.spl 32 l).getD 8 [])), .int .i64 (whenT ((K.spl 32 l).getD 7 [])), .bool true, .bool true], .bool true]), K.resAt (rs := [.cell 2 29, .tmp 3]) [.agg #[.int .i64 (numR ((K.spl 32 l).getD 0 []) 63), .int .i64 kd, .int .u32 (IntKind.u32.wrap (numR ((K.spl 32 l).getD 2 []) 4294967295)), .int .u32 (IntKind.u32.wrap (numR ((K.spl 32 l).getD 3 []) 4294967295)), .int .i64 rk, .int .u32 (IntKind.u32.wrap (numR ((K.spl 32 l).getD 5 []) 4294967295)), .int .i64 (whenT ((K.spl 32 l).getD 6 [])), .int .i64 (whenT ((K.spl 32 l).getD 8 [])), .int .i64 (whenT ((K.spl 32 l).getD 7 [])), .bool true, .bool true], .bool true] rfl ⟨⟨_, rfl, K.lvN [.int .i64 (numR ((K.spl 32 l).getD 0 []) 63), .int .i64 kd, .int .u32 (IntKind.u32.wrap (numR ((K.spl 32 l).getD 2 []) 4294967295)), .int .u32 (IntKind.u32.wrap (numR ((K.spl 32 l).getD 3 []) 4294967295)), .int .i64 rk, .int .u32 (IntKind.u32.wrap (numR ((K.spl 32 l).getD 5 []) 4294967295)), .int .i64 (whenT ((K.spl 32 l).getD 6 [])), .int .i64 (whenT ((K.spl 32 l).getD 8 [])), .int .i64 (whenT ((K.spl 32 l).getD 7 [])), .bool true, .bool true] (by kernel_rfl) (by kernel_rfl) (K.cells (K.cl ((hS.blk 3 rfl hg_77).cell rfl) (K.cl ((hS.blk 3 rfl hg_77).cell rfl) (K.cl ((hS.blk 3 rfl hg_77).cell rfl) (K.cl ((hS.blk 3 rfl hg_77).cell rfl) (K.cl ((hS.blk 3 rfl hg_77).cell rfl) (K.cl ((hS.blk 3 rfl hg_77).cell rfl) (K.cl ((hS.blk 3 rfl hg_77).cell rfl) (K.cl ((hS.blk 3 rfl hg_77).cell rfl) (K.cl ((hS.blk 3 rfl hg_77).cell rfl) (K.cl ((hS.blk 3 rfl hg_77).cell rfl) (K.cl ((hS.blk 3 rfl hg_77).cell rfl) K.cl0))))))))))))⟩, rfl, trivial⟩, [], ?_, hS.pick [4]⟩
                            exact ⟨rfl, .inl ⟨⟨by omega, by omega, by omega, by omega, by omega, by rw [hE]; assumption, by rw [hE]; assumption⟩, by rw [hE]; rfl⟩⟩
                          ·  -- no
                            refine K.RW.q rfl (by kernel_rfl) (K.QR.sNe (xs := (lineR (⟨(numR ((K.spl 32 l).getD 0 []) 63), kd, IntKind.u32.wrap (numR ((K.spl 32 l).getD 2 []) 4294967295), IntKind.u32.wrap (numR ((K.spl 32 l).getD 3 []) 4294967295), rk, IntKind.u32.wrap (numR ((K.spl 32 l).getD 5 []) 4294967295), (whenT ((K.spl 32 l).getD 6 [])), (whenT ((K.spl 32 l).getD 8 [])), (whenT ((K.spl 32 l).getD 7 [])), true, true⟩ : CallM))) (ys := l) true rfl rfl rfl (K.ndeq_f h_75)) ?_
                            refine K.RW.qs [.bool true] (by kernel_rfl) ?_
                            refine K.RW.nil ?_
                            refine K.thn_normal ?_
                            refine K.KW.ifT rfl ?_
                            refine K.KW.seq ?_
                            -- 32 :113
                            refine K.KW.region ?_
                            refine K.RW.q rfl rfl (K.QR.bd [] [.int .i64 0, .int .i64 0, .int .u32 0, .int .u32 0, .int .i64 0, .int .u32 0, .int .i64 0, .int .i64 0, .int .i64 0, .bool false, .bool false] rfl rfl (by kernel_rfl)) ?_
                            refine K.RW.l rfl (K.OW.gst 3 [.int .i64 0, .int .i64 0, .int .u32 0, .int .u32 0, .int .i64 0, .int .u32 0, .int .i64 0, .int .i64 0, .int .i64 0, .bool false, .bool false] [.int .i64 0, .int .i64 0, .int .u32 0, .int .u32 0, .int .i64 0, .int .u32 0, .int .i64 0, .int .i64 0, .int .i64 0, .bool false, .bool false] hS hg_3 ?_)
                            clear hS; intro w g_78 hg_79 hS
                            replace hS : K.Sat w0 [g_39, g_71, g_5, g_78, fr] w := hS
                            refine K.RW.qs [.bool false] (by kernel_rfl) ?_
                            refine K.RW.nil ?_
                            refine K.thn_normal ?_
                            refine K.KW.ret ?_
                            refine K.thn_ret ?_
                            have hE := rdT_eq (W := K.spl 32 l) hkd8 hrk6 (crk h_67) (decide_eq_true h_70)
                            refine ⟨.inr rfl, rfl, (.tuple #[.agg #[.int .i64 0, .int .i64 0, .int .u32 0, .int .u32 0, .int .i64 0, .int .u32 0, .int .i64 0, .int .i64 0, .int .i64 0, .bool false, .bool false], .bool false]), K.resAt (rs := [.cell 2 29, .tmp 3]) [.agg #[.int .i64 0, .int .i64 0, .int .u32 0, .int .u32 0, .int .i64 0, .int .u32 0, .int .i64 0, .int .i64 0, .int .i64 0, .bool false, .bool false], .bool false] rfl ⟨⟨_, rfl, K.lvN [.int .i64 0, .int .i64 0, .int .u32 0, .int .u32 0, .int .i64 0, .int .u32 0, .int .i64 0, .int .i64 0, .int .i64 0, .bool false, .bool false] (by kernel_rfl) (by kernel_rfl) (K.cells (K.cl ((hS.blk 3 rfl hg_79).cell rfl) (K.cl ((hS.blk 3 rfl hg_79).cell rfl) (K.cl ((hS.blk 3 rfl hg_79).cell rfl) (K.cl ((hS.blk 3 rfl hg_79).cell rfl) (K.cl ((hS.blk 3 rfl hg_79).cell rfl) (K.cl ((hS.blk 3 rfl hg_79).cell rfl) (K.cl ((hS.blk 3 rfl hg_79).cell rfl) (K.cl ((hS.blk 3 rfl hg_79).cell rfl) (K.cl ((hS.blk 3 rfl hg_79).cell rfl) (K.cl ((hS.blk 3 rfl hg_79).cell rfl) (K.cl ((hS.blk 3 rfl hg_79).cell rfl) K.cl0))))))))))))⟩, rfl, trivial⟩, [], ?_, hS.pick [4]⟩
                            exact ⟨rfl, .inr ⟨fun hh => by first | exact absurd (hE ▸ hh.2.2.2.2.2.1) (by assumption) | (have h9 := hh.2.2.2.2.2.2; rw [hE] at h9; exact absurd h9 (by assumption)), rfl⟩⟩
                        ·
                          replace hS : K.Sat w0 [g_39, g_71, g_5, g_2, fr] w := hS
                          refine K.RW.qs [.bool true, .bool true] (by kernel_rfl) ?_
                          refine K.RW.skip rfl (by kernel_rfl) ?_
                          refine K.RW.skip rfl (by kernel_rfl) ?_
                          refine K.RW.skip rfl (by kernel_rfl) ?_
                          refine K.RW.skip rfl (by kernel_rfl) ?_
                          refine K.RW.qs [.bool true] (by kernel_rfl) ?_
                          refine K.RW.nil ?_
                          refine K.thn_normal ?_
                          refine K.KW.ifT rfl ?_
                          refine K.KW.seq ?_
                          -- 32 :113
                          refine K.KW.region ?_
                          refine K.RW.q rfl rfl (K.QR.bd [] [.int .i64 0, .int .i64 0, .int .u32 0, .int .u32 0, .int .i64 0, .int .u32 0, .int .i64 0, .int .i64 0, .int .i64 0, .bool false, .bool false] rfl rfl (by kernel_rfl)) ?_
                          refine K.RW.l rfl (K.OW.gst 3 [.int .i64 0, .int .i64 0, .int .u32 0, .int .u32 0, .int .i64 0, .int .u32 0, .int .i64 0, .int .i64 0, .int .i64 0, .bool false, .bool false] [.int .i64 0, .int .i64 0, .int .u32 0, .int .u32 0, .int .i64 0, .int .u32 0, .int .i64 0, .int .i64 0, .int .i64 0, .bool false, .bool false] hS hg_3 ?_)
                          clear hS; intro w g_80 hg_81 hS
                          replace hS : K.Sat w0 [g_39, g_71, g_5, g_80, fr] w := hS
                          refine K.RW.qs [.bool false] (by kernel_rfl) ?_
                          refine K.RW.nil ?_
                          refine K.thn_normal ?_
                          refine K.KW.ret ?_
                          refine K.thn_ret ?_
                          have hE := rdT_eq (W := K.spl 32 l) hkd8 hrk6 (crk h_67) (decide_eq_true h_70)
                          refine ⟨.inr rfl, rfl, (.tuple #[.agg #[.int .i64 0, .int .i64 0, .int .u32 0, .int .u32 0, .int .i64 0, .int .u32 0, .int .i64 0, .int .i64 0, .int .i64 0, .bool false, .bool false], .bool false]), K.resAt (rs := [.cell 2 29, .tmp 3]) [.agg #[.int .i64 0, .int .i64 0, .int .u32 0, .int .u32 0, .int .i64 0, .int .u32 0, .int .i64 0, .int .i64 0, .int .i64 0, .bool false, .bool false], .bool false] rfl ⟨⟨_, rfl, K.lvN [.int .i64 0, .int .i64 0, .int .u32 0, .int .u32 0, .int .i64 0, .int .u32 0, .int .i64 0, .int .i64 0, .int .i64 0, .bool false, .bool false] (by kernel_rfl) (by kernel_rfl) (K.cells (K.cl ((hS.blk 3 rfl hg_81).cell rfl) (K.cl ((hS.blk 3 rfl hg_81).cell rfl) (K.cl ((hS.blk 3 rfl hg_81).cell rfl) (K.cl ((hS.blk 3 rfl hg_81).cell rfl) (K.cl ((hS.blk 3 rfl hg_81).cell rfl) (K.cl ((hS.blk 3 rfl hg_81).cell rfl) (K.cl ((hS.blk 3 rfl hg_81).cell rfl) (K.cl ((hS.blk 3 rfl hg_81).cell rfl) (K.cl ((hS.blk 3 rfl hg_81).cell rfl) (K.cl ((hS.blk 3 rfl hg_81).cell rfl) (K.cl ((hS.blk 3 rfl hg_81).cell rfl) K.cl0))))))))))))⟩, rfl, trivial⟩, [], ?_, hS.pick [4]⟩
                          exact ⟨rfl, .inr ⟨fun hh => by first | exact absurd (hE ▸ hh.2.2.2.2.2.1) (by assumption) | (have h9 := hh.2.2.2.2.2.2; rw [hE] at h9; exact absurd h9 (by assumption)), rfl⟩⟩
                      ·  -- no
                        refine K.RW.q rfl rfl (K.QR.sEq (xs := (K.spl 32 l).getD 9 []) (ys := [107, 101, 112, 116]) false rfl rfl rfl (K.deq_f h_70)) ?_
                        refine K.RW.qs [.pointer (some ⟨r_9, 10, none⟩)] (by kernel_rfl) ?_
                        refine K.RW.l rfl (K.OW.gst 1 [.bool false] [.int .i64 (numR ((K.spl 32 l).getD 0 []) 63), .int .i64 kd, .int .u32 (IntKind.u32.wrap (numR ((K.spl 32 l).getD 2 []) 4294967295)), .int .u32 (IntKind.u32.wrap (numR ((K.spl 32 l).getD 3 []) 4294967295)), .int .i64 rk, .int .u32 (IntKind.u32.wrap (numR ((K.spl 32 l).getD 5 []) 4294967295)), .int .i64 (whenT ((K.spl 32 l).getD 6 [])), .int .i64 (whenT ((K.spl 32 l).getD 8 [])), .int .i64 (whenT ((K.spl 32 l).getD 7 [])), .bool true, .bool false] hS hg_69 ?_)
                        clear hS; intro w g_82 hg_83 hS
                        replace hS : K.Sat w0 [g_39, g_82, g_5, g_2, fr] w := hS
                        refine K.RW.nil ?_
                        refine K.thn_normal ?_
                        refine K.KW.seq ?_
                        refine K.KW.seq ?_
                        -- 31 :112
                        refine K.KW.region ?_
                        refine K.RW.q rfl rfl (K.QR.ldN [.int .i64 (numR ((K.spl 32 l).getD 0 []) 63), .int .i64 kd, .int .u32 (IntKind.u32.wrap (numR ((K.spl 32 l).getD 2 []) 4294967295)), .int .u32 (IntKind.u32.wrap (numR ((K.spl 32 l).getD 3 []) 4294967295)), .int .i64 rk, .int .u32 (IntKind.u32.wrap (numR ((K.spl 32 l).getD 5 []) 4294967295)), .int .i64 (whenT ((K.spl 32 l).getD 6 [])), .int .i64 (whenT ((K.spl 32 l).getD 8 [])), .int .i64 (whenT ((K.spl 32 l).getD 7 [])), .bool true, .bool false] rfl rfl (by kernel_rfl) (by kernel_rfl) (K.cells (K.cl ((hS.blk 1 rfl hg_83).cell rfl) (K.cl ((hS.blk 1 rfl hg_83).cell rfl) (K.cl ((hS.blk 1 rfl hg_83).cell rfl) (K.cl ((hS.blk 1 rfl hg_83).cell rfl) (K.cl ((hS.blk 1 rfl hg_83).cell rfl) (K.cl ((hS.blk 1 rfl hg_83).cell rfl) (K.cl ((hS.blk 1 rfl hg_83).cell rfl) (K.cl ((hS.blk 1 rfl hg_83).cell rfl) (K.cl ((hS.blk 1 rfl hg_83).cell rfl) (K.cl ((hS.blk 1 rfl hg_83).cell rfl) (K.cl ((hS.blk 1 rfl hg_83).cell rfl) K.cl0))))))))))))) ?_
                        refine K.RW.l rfl (K.OW.gcall hS [] [0, 1, 2, 3, 4] [.agg #[.int .i64 (numR ((K.spl 32 l).getD 0 []) 63), .int .i64 kd, .int .u32 (IntKind.u32.wrap (numR ((K.spl 32 l).getD 2 []) 4294967295)), .int .u32 (IntKind.u32.wrap (numR ((K.spl 32 l).getD 3 []) 4294967295)), .int .i64 rk, .int .u32 (IntKind.u32.wrap (numR ((K.spl 32 l).getD 5 []) 4294967295)), .int .i64 (whenT ((K.spl 32 l).getD 6 [])), .int .i64 (whenT ((K.spl 32 l).getD 8 [])), .int .i64 (whenT ((K.spl 32 l).getD 7 [])), .bool true, .bool false]] (rmay_ok _ (⟨(numR ((K.spl 32 l).getD 0 []) 63), kd, IntKind.u32.wrap (numR ((K.spl 32 l).getD 2 []) 4294967295), IntKind.u32.wrap (numR ((K.spl 32 l).getD 3 []) 4294967295), rk, IntKind.u32.wrap (numR ((K.spl 32 l).getD 5 []) 4294967295), (whenT ((K.spl 32 l).getD 6 [])), (whenT ((K.spl 32 l).getD 8 [])), (whenT ((K.spl 32 l).getD 7 [])), true, false⟩ : CallM)) ?_)
                        clear hS; rintro _ _ w ⟨rfl, (⟨h_84, rfl⟩ | ⟨h_85, rfl⟩)⟩ hS
                        ·
                          replace hS : K.Sat w0 [g_39, g_82, g_5, g_2, fr] w := hS
                          refine K.RW.qs [.bool false, .bool false] (by kernel_rfl) ?_
                          refine K.RW.q rfl (by kernel_rfl) (K.QR.ldN [.int .i64 (numR ((K.spl 32 l).getD 0 []) 63), .int .i64 kd, .int .u32 (IntKind.u32.wrap (numR ((K.spl 32 l).getD 2 []) 4294967295)), .int .u32 (IntKind.u32.wrap (numR ((K.spl 32 l).getD 3 []) 4294967295)), .int .i64 rk, .int .u32 (IntKind.u32.wrap (numR ((K.spl 32 l).getD 5 []) 4294967295)), .int .i64 (whenT ((K.spl 32 l).getD 6 [])), .int .i64 (whenT ((K.spl 32 l).getD 8 [])), .int .i64 (whenT ((K.spl 32 l).getD 7 [])), .bool true, .bool false] rfl rfl (by kernel_rfl) (by kernel_rfl) (K.cells (K.cl ((hS.blk 1 rfl hg_83).cell rfl) (K.cl ((hS.blk 1 rfl hg_83).cell rfl) (K.cl ((hS.blk 1 rfl hg_83).cell rfl) (K.cl ((hS.blk 1 rfl hg_83).cell rfl) (K.cl ((hS.blk 1 rfl hg_83).cell rfl) (K.cl ((hS.blk 1 rfl hg_83).cell rfl) (K.cl ((hS.blk 1 rfl hg_83).cell rfl) (K.cl ((hS.blk 1 rfl hg_83).cell rfl) (K.cl ((hS.blk 1 rfl hg_83).cell rfl) (K.cl ((hS.blk 1 rfl hg_83).cell rfl) (K.cl ((hS.blk 1 rfl hg_83).cell rfl) K.cl0))))))))))))) ?_
                          refine K.RW.l (by kernel_rfl) (K.OW.gcall hS [] [0, 1, 2, 3, 4] [.agg #[.int .i64 (numR ((K.spl 32 l).getD 0 []) 63), .int .i64 kd, .int .u32 (IntKind.u32.wrap (numR ((K.spl 32 l).getD 2 []) 4294967295)), .int .u32 (IntKind.u32.wrap (numR ((K.spl 32 l).getD 3 []) 4294967295)), .int .i64 rk, .int .u32 (IntKind.u32.wrap (numR ((K.spl 32 l).getD 5 []) 4294967295)), .int .i64 (whenT ((K.spl 32 l).getD 6 [])), .int .i64 (whenT ((K.spl 32 l).getD 8 [])), .int .i64 (whenT ((K.spl 32 l).getD 7 [])), .bool true, .bool false]] (rline_ok _ (⟨(numR ((K.spl 32 l).getD 0 []) 63), kd, IntKind.u32.wrap (numR ((K.spl 32 l).getD 2 []) 4294967295), IntKind.u32.wrap (numR ((K.spl 32 l).getD 3 []) 4294967295), rk, IntKind.u32.wrap (numR ((K.spl 32 l).getD 5 []) 4294967295), (whenT ((K.spl 32 l).getD 6 [])), (whenT ((K.spl 32 l).getD 8 [])), (whenT ((K.spl 32 l).getD 7 [])), true, false⟩ : CallM) (may_fits (by assumption)) (by assumption)) ?_)
                          clear hS; rintro _ _ w ⟨rfl, rfl⟩ hS
                          replace hS : K.Sat w0 [g_39, g_82, g_5, g_2, fr] w := hS
                          refine K.RW.qs [.string (K.sb l)] (by kernel_rfl) ?_
                          by_cases h_86 : (lineR (⟨(numR ((K.spl 32 l).getD 0 []) 63), kd, IntKind.u32.wrap (numR ((K.spl 32 l).getD 2 []) 4294967295), IntKind.u32.wrap (numR ((K.spl 32 l).getD 3 []) 4294967295), rk, IntKind.u32.wrap (numR ((K.spl 32 l).getD 5 []) 4294967295), (whenT ((K.spl 32 l).getD 6 [])), (whenT ((K.spl 32 l).getD 8 [])), (whenT ((K.spl 32 l).getD 7 [])), true, false⟩ : CallM)) = l
                          ·  -- yes
                            refine K.RW.q rfl (by kernel_rfl) (K.QR.sNe (xs := (lineR (⟨(numR ((K.spl 32 l).getD 0 []) 63), kd, IntKind.u32.wrap (numR ((K.spl 32 l).getD 2 []) 4294967295), IntKind.u32.wrap (numR ((K.spl 32 l).getD 3 []) 4294967295), rk, IntKind.u32.wrap (numR ((K.spl 32 l).getD 5 []) 4294967295), (whenT ((K.spl 32 l).getD 6 [])), (whenT ((K.spl 32 l).getD 8 [])), (whenT ((K.spl 32 l).getD 7 [])), true, false⟩ : CallM))) (ys := l) false rfl rfl rfl (K.ndeq_t h_86)) ?_
                            refine K.RW.qs [.bool false] (by kernel_rfl) ?_
                            refine K.RW.nil ?_
                            refine K.thn_normal ?_
                            refine K.KW.ifF rfl ?_
                            refine K.KW.skip ?_
                            refine K.thn_normal ?_
                            refine K.KW.seq ?_
                            -- 33 :115
                            refine K.KW.region ?_
                            refine K.RW.q rfl rfl (K.QR.ldN [.int .i64 (numR ((K.spl 32 l).getD 0 []) 63), .int .i64 kd, .int .u32 (IntKind.u32.wrap (numR ((K.spl 32 l).getD 2 []) 4294967295)), .int .u32 (IntKind.u32.wrap (numR ((K.spl 32 l).getD 3 []) 4294967295)), .int .i64 rk, .int .u32 (IntKind.u32.wrap (numR ((K.spl 32 l).getD 5 []) 4294967295)), .int .i64 (whenT ((K.spl 32 l).getD 6 [])), .int .i64 (whenT ((K.spl 32 l).getD 8 [])), .int .i64 (whenT ((K.spl 32 l).getD 7 [])), .bool true, .bool false] rfl rfl (by kernel_rfl) (by kernel_rfl) (K.cells (K.cl ((hS.blk 1 rfl hg_83).cell rfl) (K.cl ((hS.blk 1 rfl hg_83).cell rfl) (K.cl ((hS.blk 1 rfl hg_83).cell rfl) (K.cl ((hS.blk 1 rfl hg_83).cell rfl) (K.cl ((hS.blk 1 rfl hg_83).cell rfl) (K.cl ((hS.blk 1 rfl hg_83).cell rfl) (K.cl ((hS.blk 1 rfl hg_83).cell rfl) (K.cl ((hS.blk 1 rfl hg_83).cell rfl) (K.cl ((hS.blk 1 rfl hg_83).cell rfl) (K.cl ((hS.blk 1 rfl hg_83).cell rfl) (K.cl ((hS.blk 1 rfl hg_83).cell rfl) K.cl0))))))))))))) ?_
                            refine K.RW.l rfl (K.OW.gst 3 [.int .i64 (numR ((K.spl 32 l).getD 0 []) 63), .int .i64 kd, .int .u32 (IntKind.u32.wrap (numR ((K.spl 32 l).getD 2 []) 4294967295)), .int .u32 (IntKind.u32.wrap (numR ((K.spl 32 l).getD 3 []) 4294967295)), .int .i64 rk, .int .u32 (IntKind.u32.wrap (numR ((K.spl 32 l).getD 5 []) 4294967295)), .int .i64 (whenT ((K.spl 32 l).getD 6 [])), .int .i64 (whenT ((K.spl 32 l).getD 8 [])), .int .i64 (whenT ((K.spl 32 l).getD 7 [])), .bool true, .bool false] [.int .i64 (numR ((K.spl 32 l).getD 0 []) 63), .int .i64 kd, .int .u32 (IntKind.u32.wrap (numR ((K.spl 32 l).getD 2 []) 4294967295)), .int .u32 (IntKind.u32.wrap (numR ((K.spl 32 l).getD 3 []) 4294967295)), .int .i64 rk, .int .u32 (IntKind.u32.wrap (numR ((K.spl 32 l).getD 5 []) 4294967295)), .int .i64 (whenT ((K.spl 32 l).getD 6 [])), .int .i64 (whenT ((K.spl 32 l).getD 8 [])), .int .i64 (whenT ((K.spl 32 l).getD 7 [])), .bool true, .bool false] hS hg_3 ?_)
                            clear hS; intro w g_87 hg_88 hS
                            replace hS : K.Sat w0 [g_39, g_82, g_5, g_87, fr] w := hS
                            refine K.RW.qs [.bool true] (by kernel_rfl) ?_
                            refine K.RW.nil ?_
                            refine K.thn_normal ?_
                            refine K.KW.ret ?_
                            have hE := rdT_eq (W := K.spl 32 l) hkd8 hrk6 (crk h_67) (decide_eq_false h_70)
                            refine ⟨.inr rfl, rfl, (.tuple #[.agg #[.int .i64 (numR ((K.spl 32 l).getD 0 []) 63), .int .i64 kd, .int .u32 (IntKind.u32.wrap (numR ((K.spl 32 l).getD 2 []) 4294967295)), .int .u32 (IntKind.u32.wrap (numR ((K.spl 32 l).getD 3 []) 4294967295)), .int .i64 rk, .int .u32 (IntKind.u32.wrap (numR ((K.spl 32 l).getD 5 []) 4294967295)), .int .i64 (whenT ((K.spl 32 l).getD 6 [])), .int .i64 (whenT ((K.spl 32 l).getD 8 [])), .int .i64 (whenT ((K.spl 32 l).getD 7 [])), .bool true, .bool false], .bool true]), K.resAt (rs := [.cell 2 29, .tmp 3]) [.agg #[.int .i64 (numR ((K.spl 32 l).getD 0 []) 63), .int .i64 kd, .int .u32 (IntKind.u32.wrap (numR ((K.spl 32 l).getD 2 []) 4294967295)), .int .u32 (IntKind.u32.wrap (numR ((K.spl 32 l).getD 3 []) 4294967295)), .int .i64 rk, .int .u32 (IntKind.u32.wrap (numR ((K.spl 32 l).getD 5 []) 4294967295)), .int .i64 (whenT ((K.spl 32 l).getD 6 [])), .int .i64 (whenT ((K.spl 32 l).getD 8 [])), .int .i64 (whenT ((K.spl 32 l).getD 7 [])), .bool true, .bool false], .bool true] rfl ⟨⟨_, rfl, K.lvN [.int .i64 (numR ((K.spl 32 l).getD 0 []) 63), .int .i64 kd, .int .u32 (IntKind.u32.wrap (numR ((K.spl 32 l).getD 2 []) 4294967295)), .int .u32 (IntKind.u32.wrap (numR ((K.spl 32 l).getD 3 []) 4294967295)), .int .i64 rk, .int .u32 (IntKind.u32.wrap (numR ((K.spl 32 l).getD 5 []) 4294967295)), .int .i64 (whenT ((K.spl 32 l).getD 6 [])), .int .i64 (whenT ((K.spl 32 l).getD 8 [])), .int .i64 (whenT ((K.spl 32 l).getD 7 [])), .bool true, .bool false] (by kernel_rfl) (by kernel_rfl) (K.cells (K.cl ((hS.blk 3 rfl hg_88).cell rfl) (K.cl ((hS.blk 3 rfl hg_88).cell rfl) (K.cl ((hS.blk 3 rfl hg_88).cell rfl) (K.cl ((hS.blk 3 rfl hg_88).cell rfl) (K.cl ((hS.blk 3 rfl hg_88).cell rfl) (K.cl ((hS.blk 3 rfl hg_88).cell rfl) (K.cl ((hS.blk 3 rfl hg_88).cell rfl) (K.cl ((hS.blk 3 rfl hg_88).cell rfl) (K.cl ((hS.blk 3 rfl hg_88).cell rfl) (K.cl ((hS.blk 3 rfl hg_88).cell rfl) (K.cl ((hS.blk 3 rfl hg_88).cell rfl) K.cl0))))))))))))⟩, rfl, trivial⟩, [], ?_, hS.pick [4]⟩
                            exact ⟨rfl, .inl ⟨⟨by omega, by omega, by omega, by omega, by omega, by rw [hE]; assumption, by rw [hE]; assumption⟩, by rw [hE]; rfl⟩⟩
                          ·  -- no
                            refine K.RW.q rfl (by kernel_rfl) (K.QR.sNe (xs := (lineR (⟨(numR ((K.spl 32 l).getD 0 []) 63), kd, IntKind.u32.wrap (numR ((K.spl 32 l).getD 2 []) 4294967295), IntKind.u32.wrap (numR ((K.spl 32 l).getD 3 []) 4294967295), rk, IntKind.u32.wrap (numR ((K.spl 32 l).getD 5 []) 4294967295), (whenT ((K.spl 32 l).getD 6 [])), (whenT ((K.spl 32 l).getD 8 [])), (whenT ((K.spl 32 l).getD 7 [])), true, false⟩ : CallM))) (ys := l) true rfl rfl rfl (K.ndeq_f h_86)) ?_
                            refine K.RW.qs [.bool true] (by kernel_rfl) ?_
                            refine K.RW.nil ?_
                            refine K.thn_normal ?_
                            refine K.KW.ifT rfl ?_
                            refine K.KW.seq ?_
                            -- 32 :113
                            refine K.KW.region ?_
                            refine K.RW.q rfl rfl (K.QR.bd [] [.int .i64 0, .int .i64 0, .int .u32 0, .int .u32 0, .int .i64 0, .int .u32 0, .int .i64 0, .int .i64 0, .int .i64 0, .bool false, .bool false] rfl rfl (by kernel_rfl)) ?_
                            refine K.RW.l rfl (K.OW.gst 3 [.int .i64 0, .int .i64 0, .int .u32 0, .int .u32 0, .int .i64 0, .int .u32 0, .int .i64 0, .int .i64 0, .int .i64 0, .bool false, .bool false] [.int .i64 0, .int .i64 0, .int .u32 0, .int .u32 0, .int .i64 0, .int .u32 0, .int .i64 0, .int .i64 0, .int .i64 0, .bool false, .bool false] hS hg_3 ?_)
                            clear hS; intro w g_89 hg_90 hS
                            replace hS : K.Sat w0 [g_39, g_82, g_5, g_89, fr] w := hS
                            refine K.RW.qs [.bool false] (by kernel_rfl) ?_
                            refine K.RW.nil ?_
                            refine K.thn_normal ?_
                            refine K.KW.ret ?_
                            refine K.thn_ret ?_
                            have hE := rdT_eq (W := K.spl 32 l) hkd8 hrk6 (crk h_67) (decide_eq_false h_70)
                            refine ⟨.inr rfl, rfl, (.tuple #[.agg #[.int .i64 0, .int .i64 0, .int .u32 0, .int .u32 0, .int .i64 0, .int .u32 0, .int .i64 0, .int .i64 0, .int .i64 0, .bool false, .bool false], .bool false]), K.resAt (rs := [.cell 2 29, .tmp 3]) [.agg #[.int .i64 0, .int .i64 0, .int .u32 0, .int .u32 0, .int .i64 0, .int .u32 0, .int .i64 0, .int .i64 0, .int .i64 0, .bool false, .bool false], .bool false] rfl ⟨⟨_, rfl, K.lvN [.int .i64 0, .int .i64 0, .int .u32 0, .int .u32 0, .int .i64 0, .int .u32 0, .int .i64 0, .int .i64 0, .int .i64 0, .bool false, .bool false] (by kernel_rfl) (by kernel_rfl) (K.cells (K.cl ((hS.blk 3 rfl hg_90).cell rfl) (K.cl ((hS.blk 3 rfl hg_90).cell rfl) (K.cl ((hS.blk 3 rfl hg_90).cell rfl) (K.cl ((hS.blk 3 rfl hg_90).cell rfl) (K.cl ((hS.blk 3 rfl hg_90).cell rfl) (K.cl ((hS.blk 3 rfl hg_90).cell rfl) (K.cl ((hS.blk 3 rfl hg_90).cell rfl) (K.cl ((hS.blk 3 rfl hg_90).cell rfl) (K.cl ((hS.blk 3 rfl hg_90).cell rfl) (K.cl ((hS.blk 3 rfl hg_90).cell rfl) (K.cl ((hS.blk 3 rfl hg_90).cell rfl) K.cl0))))))))))))⟩, rfl, trivial⟩, [], ?_, hS.pick [4]⟩
                            exact ⟨rfl, .inr ⟨fun hh => by first | exact absurd (hE ▸ hh.2.2.2.2.2.1) (by assumption) | (have h9 := hh.2.2.2.2.2.2; rw [hE] at h9; exact absurd h9 (by assumption)), rfl⟩⟩
                        ·
                          replace hS : K.Sat w0 [g_39, g_82, g_5, g_2, fr] w := hS
                          refine K.RW.qs [.bool true, .bool true] (by kernel_rfl) ?_
                          refine K.RW.skip rfl (by kernel_rfl) ?_
                          refine K.RW.skip rfl (by kernel_rfl) ?_
                          refine K.RW.skip rfl (by kernel_rfl) ?_
                          refine K.RW.skip rfl (by kernel_rfl) ?_
                          refine K.RW.qs [.bool true] (by kernel_rfl) ?_
                          refine K.RW.nil ?_
                          refine K.thn_normal ?_
                          refine K.KW.ifT rfl ?_
                          refine K.KW.seq ?_
                          -- 32 :113
                          refine K.KW.region ?_
                          refine K.RW.q rfl rfl (K.QR.bd [] [.int .i64 0, .int .i64 0, .int .u32 0, .int .u32 0, .int .i64 0, .int .u32 0, .int .i64 0, .int .i64 0, .int .i64 0, .bool false, .bool false] rfl rfl (by kernel_rfl)) ?_
                          refine K.RW.l rfl (K.OW.gst 3 [.int .i64 0, .int .i64 0, .int .u32 0, .int .u32 0, .int .i64 0, .int .u32 0, .int .i64 0, .int .i64 0, .int .i64 0, .bool false, .bool false] [.int .i64 0, .int .i64 0, .int .u32 0, .int .u32 0, .int .i64 0, .int .u32 0, .int .i64 0, .int .i64 0, .int .i64 0, .bool false, .bool false] hS hg_3 ?_)
                          clear hS; intro w g_91 hg_92 hS
                          replace hS : K.Sat w0 [g_39, g_82, g_5, g_91, fr] w := hS
                          refine K.RW.qs [.bool false] (by kernel_rfl) ?_
                          refine K.RW.nil ?_
                          refine K.thn_normal ?_
                          refine K.KW.ret ?_
                          refine K.thn_ret ?_
                          have hE := rdT_eq (W := K.spl 32 l) hkd8 hrk6 (crk h_67) (decide_eq_false h_70)
                          refine ⟨.inr rfl, rfl, (.tuple #[.agg #[.int .i64 0, .int .i64 0, .int .u32 0, .int .u32 0, .int .i64 0, .int .u32 0, .int .i64 0, .int .i64 0, .int .i64 0, .bool false, .bool false], .bool false]), K.resAt (rs := [.cell 2 29, .tmp 3]) [.agg #[.int .i64 0, .int .i64 0, .int .u32 0, .int .u32 0, .int .i64 0, .int .u32 0, .int .i64 0, .int .i64 0, .int .i64 0, .bool false, .bool false], .bool false] rfl ⟨⟨_, rfl, K.lvN [.int .i64 0, .int .i64 0, .int .u32 0, .int .u32 0, .int .i64 0, .int .u32 0, .int .i64 0, .int .i64 0, .int .i64 0, .bool false, .bool false] (by kernel_rfl) (by kernel_rfl) (K.cells (K.cl ((hS.blk 3 rfl hg_92).cell rfl) (K.cl ((hS.blk 3 rfl hg_92).cell rfl) (K.cl ((hS.blk 3 rfl hg_92).cell rfl) (K.cl ((hS.blk 3 rfl hg_92).cell rfl) (K.cl ((hS.blk 3 rfl hg_92).cell rfl) (K.cl ((hS.blk 3 rfl hg_92).cell rfl) (K.cl ((hS.blk 3 rfl hg_92).cell rfl) (K.cl ((hS.blk 3 rfl hg_92).cell rfl) (K.cl ((hS.blk 3 rfl hg_92).cell rfl) (K.cl ((hS.blk 3 rfl hg_92).cell rfl) (K.cl ((hS.blk 3 rfl hg_92).cell rfl) K.cl0))))))))))))⟩, rfl, trivial⟩, [], ?_, hS.pick [4]⟩
                          exact ⟨rfl, .inr ⟨fun hh => by first | exact absurd (hE ▸ hh.2.2.2.2.2.1) (by assumption) | (have h9 := hh.2.2.2.2.2.2; rw [hE] at h9; exact absurd h9 (by assumption)), rfl⟩⟩
                    ·  -- no
                      refine K.RW.q rfl rfl (K.QR.sEq (xs := (K.spl 32 l).getD 9 []) (ys := [99, 114, 97, 115, 104, 101, 100]) false rfl rfl rfl (K.deq_f h_67)) ?_
                      refine K.RW.qs [.bool false, .slice (some ⟨b_36, 0, none⟩) ((K.spl 32 l).length) k_6] (by kernel_rfl) ?_
                      refine K.RW.q rfl (by kernel_rfl) (K.QR.ix 9 1 rfl rfl rfl Tryd.underlying68 (by kernel_rfl) (by omega) (by first | (simp; done) | omega | (simp; omega))) ?_
                      refine K.RW.q rfl (by kernel_rfl) (K.QR.ld1 (v := .string (K.sb ((K.spl 32 l).getD 9 []))) rfl rfl (by kernel_rfl) (K.Own.atS (c := K.cStr) (d := []) (fun _ => rfl) (hS.ownr 2 rfl o_7) rfl 9 (by omega))) ?_
                      by_cases h_93 : ((K.spl 32 l).getD 9 []) = ([107, 101, 112, 116] : List UInt8)
                      ·  -- yes
                        refine K.RW.q rfl (by kernel_rfl) (K.QR.sEq (xs := (K.spl 32 l).getD 9 []) (ys := [107, 101, 112, 116]) true rfl rfl rfl (K.deq_t h_93)) ?_
                        refine K.RW.qs [.bool true, .pointer (some ⟨r_9, 9, none⟩)] (by kernel_rfl) ?_
                        refine K.RW.l rfl (K.OW.gst 1 [.bool true] [.int .i64 (numR ((K.spl 32 l).getD 0 []) 63), .int .i64 kd, .int .u32 (IntKind.u32.wrap (numR ((K.spl 32 l).getD 2 []) 4294967295)), .int .u32 (IntKind.u32.wrap (numR ((K.spl 32 l).getD 3 []) 4294967295)), .int .i64 rk, .int .u32 (IntKind.u32.wrap (numR ((K.spl 32 l).getD 5 []) 4294967295)), .int .i64 (whenT ((K.spl 32 l).getD 6 [])), .int .i64 (whenT ((K.spl 32 l).getD 8 [])), .int .i64 (whenT ((K.spl 32 l).getD 7 [])), .bool true, .bool false] hS hg_66 ?_)
                        clear hS; intro w g_94 hg_95 hS
                        replace hS : K.Sat w0 [g_39, g_94, g_5, g_2, fr] w := hS
                        refine K.RW.nil ?_
                        refine K.thn_normal ?_
                        refine K.KW.seq ?_
                        -- 30 :111
                        refine K.KW.region ?_
                        refine K.RW.qs [.slice (some ⟨b_36, 0, none⟩) ((K.spl 32 l).length) k_6] (by kernel_rfl) ?_
                        refine K.RW.q rfl rfl (K.QR.ix 9 1 rfl rfl rfl Tryd.underlying68 (by kernel_rfl) (by omega) (by first | (simp; done) | omega | (simp; omega))) ?_
                        refine K.RW.q rfl rfl (K.QR.ld1 (v := .string (K.sb ((K.spl 32 l).getD 9 []))) rfl rfl (by kernel_rfl) (K.Own.atS (c := K.cStr) (d := []) (fun _ => rfl) (hS.ownr 2 rfl o_7) rfl 9 (by omega))) ?_
                        refine K.RW.q rfl rfl (K.QR.sEq (xs := (K.spl 32 l).getD 9 []) (ys := [107, 101, 112, 116]) true rfl rfl rfl (K.deq_t h_93)) ?_
                        refine K.RW.qs [.pointer (some ⟨r_9, 10, none⟩)] (by kernel_rfl) ?_
                        refine K.RW.l rfl (K.OW.gst 1 [.bool true] [.int .i64 (numR ((K.spl 32 l).getD 0 []) 63), .int .i64 kd, .int .u32 (IntKind.u32.wrap (numR ((K.spl 32 l).getD 2 []) 4294967295)), .int .u32 (IntKind.u32.wrap (numR ((K.spl 32 l).getD 3 []) 4294967295)), .int .i64 rk, .int .u32 (IntKind.u32.wrap (numR ((K.spl 32 l).getD 5 []) 4294967295)), .int .i64 (whenT ((K.spl 32 l).getD 6 [])), .int .i64 (whenT ((K.spl 32 l).getD 8 [])), .int .i64 (whenT ((K.spl 32 l).getD 7 [])), .bool true, .bool true] hS hg_95 ?_)
                        clear hS; intro w g_96 hg_97 hS
                        replace hS : K.Sat w0 [g_39, g_96, g_5, g_2, fr] w := hS
                        refine K.RW.nil ?_
                        refine K.thn_normal ?_
                        refine K.KW.seq ?_
                        refine K.KW.seq ?_
                        -- 31 :112
                        refine K.KW.region ?_
                        refine K.RW.q rfl rfl (K.QR.ldN [.int .i64 (numR ((K.spl 32 l).getD 0 []) 63), .int .i64 kd, .int .u32 (IntKind.u32.wrap (numR ((K.spl 32 l).getD 2 []) 4294967295)), .int .u32 (IntKind.u32.wrap (numR ((K.spl 32 l).getD 3 []) 4294967295)), .int .i64 rk, .int .u32 (IntKind.u32.wrap (numR ((K.spl 32 l).getD 5 []) 4294967295)), .int .i64 (whenT ((K.spl 32 l).getD 6 [])), .int .i64 (whenT ((K.spl 32 l).getD 8 [])), .int .i64 (whenT ((K.spl 32 l).getD 7 [])), .bool true, .bool true] rfl rfl (by kernel_rfl) (by kernel_rfl) (K.cells (K.cl ((hS.blk 1 rfl hg_97).cell rfl) (K.cl ((hS.blk 1 rfl hg_97).cell rfl) (K.cl ((hS.blk 1 rfl hg_97).cell rfl) (K.cl ((hS.blk 1 rfl hg_97).cell rfl) (K.cl ((hS.blk 1 rfl hg_97).cell rfl) (K.cl ((hS.blk 1 rfl hg_97).cell rfl) (K.cl ((hS.blk 1 rfl hg_97).cell rfl) (K.cl ((hS.blk 1 rfl hg_97).cell rfl) (K.cl ((hS.blk 1 rfl hg_97).cell rfl) (K.cl ((hS.blk 1 rfl hg_97).cell rfl) (K.cl ((hS.blk 1 rfl hg_97).cell rfl) K.cl0))))))))))))) ?_
                        refine K.RW.l rfl (K.OW.gcall hS [] [0, 1, 2, 3, 4] [.agg #[.int .i64 (numR ((K.spl 32 l).getD 0 []) 63), .int .i64 kd, .int .u32 (IntKind.u32.wrap (numR ((K.spl 32 l).getD 2 []) 4294967295)), .int .u32 (IntKind.u32.wrap (numR ((K.spl 32 l).getD 3 []) 4294967295)), .int .i64 rk, .int .u32 (IntKind.u32.wrap (numR ((K.spl 32 l).getD 5 []) 4294967295)), .int .i64 (whenT ((K.spl 32 l).getD 6 [])), .int .i64 (whenT ((K.spl 32 l).getD 8 [])), .int .i64 (whenT ((K.spl 32 l).getD 7 [])), .bool true, .bool true]] (rmay_ok _ (⟨(numR ((K.spl 32 l).getD 0 []) 63), kd, IntKind.u32.wrap (numR ((K.spl 32 l).getD 2 []) 4294967295), IntKind.u32.wrap (numR ((K.spl 32 l).getD 3 []) 4294967295), rk, IntKind.u32.wrap (numR ((K.spl 32 l).getD 5 []) 4294967295), (whenT ((K.spl 32 l).getD 6 [])), (whenT ((K.spl 32 l).getD 8 [])), (whenT ((K.spl 32 l).getD 7 [])), true, true⟩ : CallM)) ?_)
                        clear hS; rintro _ _ w ⟨rfl, (⟨h_98, rfl⟩ | ⟨h_99, rfl⟩)⟩ hS
                        ·
                          replace hS : K.Sat w0 [g_39, g_96, g_5, g_2, fr] w := hS
                          refine K.RW.qs [.bool false, .bool false] (by kernel_rfl) ?_
                          refine K.RW.q rfl (by kernel_rfl) (K.QR.ldN [.int .i64 (numR ((K.spl 32 l).getD 0 []) 63), .int .i64 kd, .int .u32 (IntKind.u32.wrap (numR ((K.spl 32 l).getD 2 []) 4294967295)), .int .u32 (IntKind.u32.wrap (numR ((K.spl 32 l).getD 3 []) 4294967295)), .int .i64 rk, .int .u32 (IntKind.u32.wrap (numR ((K.spl 32 l).getD 5 []) 4294967295)), .int .i64 (whenT ((K.spl 32 l).getD 6 [])), .int .i64 (whenT ((K.spl 32 l).getD 8 [])), .int .i64 (whenT ((K.spl 32 l).getD 7 [])), .bool true, .bool true] rfl rfl (by kernel_rfl) (by kernel_rfl) (K.cells (K.cl ((hS.blk 1 rfl hg_97).cell rfl) (K.cl ((hS.blk 1 rfl hg_97).cell rfl) (K.cl ((hS.blk 1 rfl hg_97).cell rfl) (K.cl ((hS.blk 1 rfl hg_97).cell rfl) (K.cl ((hS.blk 1 rfl hg_97).cell rfl) (K.cl ((hS.blk 1 rfl hg_97).cell rfl) (K.cl ((hS.blk 1 rfl hg_97).cell rfl) (K.cl ((hS.blk 1 rfl hg_97).cell rfl) (K.cl ((hS.blk 1 rfl hg_97).cell rfl) (K.cl ((hS.blk 1 rfl hg_97).cell rfl) (K.cl ((hS.blk 1 rfl hg_97).cell rfl) K.cl0))))))))))))) ?_
                          refine K.RW.l (by kernel_rfl) (K.OW.gcall hS [] [0, 1, 2, 3, 4] [.agg #[.int .i64 (numR ((K.spl 32 l).getD 0 []) 63), .int .i64 kd, .int .u32 (IntKind.u32.wrap (numR ((K.spl 32 l).getD 2 []) 4294967295)), .int .u32 (IntKind.u32.wrap (numR ((K.spl 32 l).getD 3 []) 4294967295)), .int .i64 rk, .int .u32 (IntKind.u32.wrap (numR ((K.spl 32 l).getD 5 []) 4294967295)), .int .i64 (whenT ((K.spl 32 l).getD 6 [])), .int .i64 (whenT ((K.spl 32 l).getD 8 [])), .int .i64 (whenT ((K.spl 32 l).getD 7 [])), .bool true, .bool true]] (rline_ok _ (⟨(numR ((K.spl 32 l).getD 0 []) 63), kd, IntKind.u32.wrap (numR ((K.spl 32 l).getD 2 []) 4294967295), IntKind.u32.wrap (numR ((K.spl 32 l).getD 3 []) 4294967295), rk, IntKind.u32.wrap (numR ((K.spl 32 l).getD 5 []) 4294967295), (whenT ((K.spl 32 l).getD 6 [])), (whenT ((K.spl 32 l).getD 8 [])), (whenT ((K.spl 32 l).getD 7 [])), true, true⟩ : CallM) (may_fits (by assumption)) (by assumption)) ?_)
                          clear hS; rintro _ _ w ⟨rfl, rfl⟩ hS
                          replace hS : K.Sat w0 [g_39, g_96, g_5, g_2, fr] w := hS
                          refine K.RW.qs [.string (K.sb l)] (by kernel_rfl) ?_
                          by_cases h_100 : (lineR (⟨(numR ((K.spl 32 l).getD 0 []) 63), kd, IntKind.u32.wrap (numR ((K.spl 32 l).getD 2 []) 4294967295), IntKind.u32.wrap (numR ((K.spl 32 l).getD 3 []) 4294967295), rk, IntKind.u32.wrap (numR ((K.spl 32 l).getD 5 []) 4294967295), (whenT ((K.spl 32 l).getD 6 [])), (whenT ((K.spl 32 l).getD 8 [])), (whenT ((K.spl 32 l).getD 7 [])), true, true⟩ : CallM)) = l
                          ·  -- yes
                            refine K.RW.q rfl (by kernel_rfl) (K.QR.sNe (xs := (lineR (⟨(numR ((K.spl 32 l).getD 0 []) 63), kd, IntKind.u32.wrap (numR ((K.spl 32 l).getD 2 []) 4294967295), IntKind.u32.wrap (numR ((K.spl 32 l).getD 3 []) 4294967295), rk, IntKind.u32.wrap (numR ((K.spl 32 l).getD 5 []) 4294967295), (whenT ((K.spl 32 l).getD 6 [])), (whenT ((K.spl 32 l).getD 8 [])), (whenT ((K.spl 32 l).getD 7 [])), true, true⟩ : CallM))) (ys := l) false rfl rfl rfl (K.ndeq_t h_100)) ?_
                            refine K.RW.qs [.bool false] (by kernel_rfl) ?_
                            refine K.RW.nil ?_
                            refine K.thn_normal ?_
                            refine K.KW.ifF rfl ?_
                            refine K.KW.skip ?_
                            refine K.thn_normal ?_
                            refine K.KW.seq ?_
                            -- 33 :115
                            refine K.KW.region ?_
                            refine K.RW.q rfl rfl (K.QR.ldN [.int .i64 (numR ((K.spl 32 l).getD 0 []) 63), .int .i64 kd, .int .u32 (IntKind.u32.wrap (numR ((K.spl 32 l).getD 2 []) 4294967295)), .int .u32 (IntKind.u32.wrap (numR ((K.spl 32 l).getD 3 []) 4294967295)), .int .i64 rk, .int .u32 (IntKind.u32.wrap (numR ((K.spl 32 l).getD 5 []) 4294967295)), .int .i64 (whenT ((K.spl 32 l).getD 6 [])), .int .i64 (whenT ((K.spl 32 l).getD 8 [])), .int .i64 (whenT ((K.spl 32 l).getD 7 [])), .bool true, .bool true] rfl rfl (by kernel_rfl) (by kernel_rfl) (K.cells (K.cl ((hS.blk 1 rfl hg_97).cell rfl) (K.cl ((hS.blk 1 rfl hg_97).cell rfl) (K.cl ((hS.blk 1 rfl hg_97).cell rfl) (K.cl ((hS.blk 1 rfl hg_97).cell rfl) (K.cl ((hS.blk 1 rfl hg_97).cell rfl) (K.cl ((hS.blk 1 rfl hg_97).cell rfl) (K.cl ((hS.blk 1 rfl hg_97).cell rfl) (K.cl ((hS.blk 1 rfl hg_97).cell rfl) (K.cl ((hS.blk 1 rfl hg_97).cell rfl) (K.cl ((hS.blk 1 rfl hg_97).cell rfl) (K.cl ((hS.blk 1 rfl hg_97).cell rfl) K.cl0))))))))))))) ?_
                            refine K.RW.l rfl (K.OW.gst 3 [.int .i64 (numR ((K.spl 32 l).getD 0 []) 63), .int .i64 kd, .int .u32 (IntKind.u32.wrap (numR ((K.spl 32 l).getD 2 []) 4294967295)), .int .u32 (IntKind.u32.wrap (numR ((K.spl 32 l).getD 3 []) 4294967295)), .int .i64 rk, .int .u32 (IntKind.u32.wrap (numR ((K.spl 32 l).getD 5 []) 4294967295)), .int .i64 (whenT ((K.spl 32 l).getD 6 [])), .int .i64 (whenT ((K.spl 32 l).getD 8 [])), .int .i64 (whenT ((K.spl 32 l).getD 7 [])), .bool true, .bool true] [.int .i64 (numR ((K.spl 32 l).getD 0 []) 63), .int .i64 kd, .int .u32 (IntKind.u32.wrap (numR ((K.spl 32 l).getD 2 []) 4294967295)), .int .u32 (IntKind.u32.wrap (numR ((K.spl 32 l).getD 3 []) 4294967295)), .int .i64 rk, .int .u32 (IntKind.u32.wrap (numR ((K.spl 32 l).getD 5 []) 4294967295)), .int .i64 (whenT ((K.spl 32 l).getD 6 [])), .int .i64 (whenT ((K.spl 32 l).getD 8 [])), .int .i64 (whenT ((K.spl 32 l).getD 7 [])), .bool true, .bool true] hS hg_3 ?_)
                            clear hS; intro w g_101 hg_102 hS
                            replace hS : K.Sat w0 [g_39, g_96, g_5, g_101, fr] w := hS
                            refine K.RW.qs [.bool true] (by kernel_rfl) ?_
                            refine K.RW.nil ?_
                            refine K.thn_normal ?_
                            refine K.KW.ret ?_
                            have hE := rdT_eq (W := K.spl 32 l) hkd8 hrk6 (crk2 h_93) (decide_eq_true h_93)
                            refine ⟨.inr rfl, rfl, (.tuple #[.agg #[.int .i64 (numR ((K.spl 32 l).getD 0 []) 63), .int .i64 kd, .int .u32 (IntKind.u32.wrap (numR ((K.spl 32 l).getD 2 []) 4294967295)), .int .u32 (IntKind.u32.wrap (numR ((K.spl 32 l).getD 3 []) 4294967295)), .int .i64 rk, .int .u32 (IntKind.u32.wrap (numR ((K.spl 32 l).getD 5 []) 4294967295)), .int .i64 (whenT ((K.spl 32 l).getD 6 [])), .int .i64 (whenT ((K.spl 32 l).getD 8 [])), .int .i64 (whenT ((K.spl 32 l).getD 7 [])), .bool true, .bool true], .bool true]), K.resAt (rs := [.cell 2 29, .tmp 3]) [.agg #[.int .i64 (numR ((K.spl 32 l).getD 0 []) 63), .int .i64 kd, .int .u32 (IntKind.u32.wrap (numR ((K.spl 32 l).getD 2 []) 4294967295)), .int .u32 (IntKind.u32.wrap (numR ((K.spl 32 l).getD 3 []) 4294967295)), .int .i64 rk, .int .u32 (IntKind.u32.wrap (numR ((K.spl 32 l).getD 5 []) 4294967295)), .int .i64 (whenT ((K.spl 32 l).getD 6 [])), .int .i64 (whenT ((K.spl 32 l).getD 8 [])), .int .i64 (whenT ((K.spl 32 l).getD 7 [])), .bool true, .bool true], .bool true] rfl ⟨⟨_, rfl, K.lvN [.int .i64 (numR ((K.spl 32 l).getD 0 []) 63), .int .i64 kd, .int .u32 (IntKind.u32.wrap (numR ((K.spl 32 l).getD 2 []) 4294967295)), .int .u32 (IntKind.u32.wrap (numR ((K.spl 32 l).getD 3 []) 4294967295)), .int .i64 rk, .int .u32 (IntKind.u32.wrap (numR ((K.spl 32 l).getD 5 []) 4294967295)), .int .i64 (whenT ((K.spl 32 l).getD 6 [])), .int .i64 (whenT ((K.spl 32 l).getD 8 [])), .int .i64 (whenT ((K.spl 32 l).getD 7 [])), .bool true, .bool true] (by kernel_rfl) (by kernel_rfl) (K.cells (K.cl ((hS.blk 3 rfl hg_102).cell rfl) (K.cl ((hS.blk 3 rfl hg_102).cell rfl) (K.cl ((hS.blk 3 rfl hg_102).cell rfl) (K.cl ((hS.blk 3 rfl hg_102).cell rfl) (K.cl ((hS.blk 3 rfl hg_102).cell rfl) (K.cl ((hS.blk 3 rfl hg_102).cell rfl) (K.cl ((hS.blk 3 rfl hg_102).cell rfl) (K.cl ((hS.blk 3 rfl hg_102).cell rfl) (K.cl ((hS.blk 3 rfl hg_102).cell rfl) (K.cl ((hS.blk 3 rfl hg_102).cell rfl) (K.cl ((hS.blk 3 rfl hg_102).cell rfl) K.cl0))))))))))))⟩, rfl, trivial⟩, [], ?_, hS.pick [4]⟩
                            exact ⟨rfl, .inl ⟨⟨by omega, by omega, by omega, by omega, by omega, by rw [hE]; assumption, by rw [hE]; assumption⟩, by rw [hE]; rfl⟩⟩
                          ·  -- no
                            refine K.RW.q rfl (by kernel_rfl) (K.QR.sNe (xs := (lineR (⟨(numR ((K.spl 32 l).getD 0 []) 63), kd, IntKind.u32.wrap (numR ((K.spl 32 l).getD 2 []) 4294967295), IntKind.u32.wrap (numR ((K.spl 32 l).getD 3 []) 4294967295), rk, IntKind.u32.wrap (numR ((K.spl 32 l).getD 5 []) 4294967295), (whenT ((K.spl 32 l).getD 6 [])), (whenT ((K.spl 32 l).getD 8 [])), (whenT ((K.spl 32 l).getD 7 [])), true, true⟩ : CallM))) (ys := l) true rfl rfl rfl (K.ndeq_f h_100)) ?_
                            refine K.RW.qs [.bool true] (by kernel_rfl) ?_
                            refine K.RW.nil ?_
                            refine K.thn_normal ?_
                            refine K.KW.ifT rfl ?_
                            refine K.KW.seq ?_
                            -- 32 :113
                            refine K.KW.region ?_
                            refine K.RW.q rfl rfl (K.QR.bd [] [.int .i64 0, .int .i64 0, .int .u32 0, .int .u32 0, .int .i64 0, .int .u32 0, .int .i64 0, .int .i64 0, .int .i64 0, .bool false, .bool false] rfl rfl (by kernel_rfl)) ?_
                            refine K.RW.l rfl (K.OW.gst 3 [.int .i64 0, .int .i64 0, .int .u32 0, .int .u32 0, .int .i64 0, .int .u32 0, .int .i64 0, .int .i64 0, .int .i64 0, .bool false, .bool false] [.int .i64 0, .int .i64 0, .int .u32 0, .int .u32 0, .int .i64 0, .int .u32 0, .int .i64 0, .int .i64 0, .int .i64 0, .bool false, .bool false] hS hg_3 ?_)
                            clear hS; intro w g_103 hg_104 hS
                            replace hS : K.Sat w0 [g_39, g_96, g_5, g_103, fr] w := hS
                            refine K.RW.qs [.bool false] (by kernel_rfl) ?_
                            refine K.RW.nil ?_
                            refine K.thn_normal ?_
                            refine K.KW.ret ?_
                            refine K.thn_ret ?_
                            have hE := rdT_eq (W := K.spl 32 l) hkd8 hrk6 (crk2 h_93) (decide_eq_true h_93)
                            refine ⟨.inr rfl, rfl, (.tuple #[.agg #[.int .i64 0, .int .i64 0, .int .u32 0, .int .u32 0, .int .i64 0, .int .u32 0, .int .i64 0, .int .i64 0, .int .i64 0, .bool false, .bool false], .bool false]), K.resAt (rs := [.cell 2 29, .tmp 3]) [.agg #[.int .i64 0, .int .i64 0, .int .u32 0, .int .u32 0, .int .i64 0, .int .u32 0, .int .i64 0, .int .i64 0, .int .i64 0, .bool false, .bool false], .bool false] rfl ⟨⟨_, rfl, K.lvN [.int .i64 0, .int .i64 0, .int .u32 0, .int .u32 0, .int .i64 0, .int .u32 0, .int .i64 0, .int .i64 0, .int .i64 0, .bool false, .bool false] (by kernel_rfl) (by kernel_rfl) (K.cells (K.cl ((hS.blk 3 rfl hg_104).cell rfl) (K.cl ((hS.blk 3 rfl hg_104).cell rfl) (K.cl ((hS.blk 3 rfl hg_104).cell rfl) (K.cl ((hS.blk 3 rfl hg_104).cell rfl) (K.cl ((hS.blk 3 rfl hg_104).cell rfl) (K.cl ((hS.blk 3 rfl hg_104).cell rfl) (K.cl ((hS.blk 3 rfl hg_104).cell rfl) (K.cl ((hS.blk 3 rfl hg_104).cell rfl) (K.cl ((hS.blk 3 rfl hg_104).cell rfl) (K.cl ((hS.blk 3 rfl hg_104).cell rfl) (K.cl ((hS.blk 3 rfl hg_104).cell rfl) K.cl0))))))))))))⟩, rfl, trivial⟩, [], ?_, hS.pick [4]⟩
                            exact ⟨rfl, .inr ⟨fun hh => by first | exact absurd (hE ▸ hh.2.2.2.2.2.1) (by assumption) | (have h9 := hh.2.2.2.2.2.2; rw [hE] at h9; exact absurd h9 (by assumption)), rfl⟩⟩
                        ·
                          replace hS : K.Sat w0 [g_39, g_96, g_5, g_2, fr] w := hS
                          refine K.RW.qs [.bool true, .bool true] (by kernel_rfl) ?_
                          refine K.RW.skip rfl (by kernel_rfl) ?_
                          refine K.RW.skip rfl (by kernel_rfl) ?_
                          refine K.RW.skip rfl (by kernel_rfl) ?_
                          refine K.RW.skip rfl (by kernel_rfl) ?_
                          refine K.RW.qs [.bool true] (by kernel_rfl) ?_
                          refine K.RW.nil ?_
                          refine K.thn_normal ?_
                          refine K.KW.ifT rfl ?_
                          refine K.KW.seq ?_
                          -- 32 :113
                          refine K.KW.region ?_
                          refine K.RW.q rfl rfl (K.QR.bd [] [.int .i64 0, .int .i64 0, .int .u32 0, .int .u32 0, .int .i64 0, .int .u32 0, .int .i64 0, .int .i64 0, .int .i64 0, .bool false, .bool false] rfl rfl (by kernel_rfl)) ?_
                          refine K.RW.l rfl (K.OW.gst 3 [.int .i64 0, .int .i64 0, .int .u32 0, .int .u32 0, .int .i64 0, .int .u32 0, .int .i64 0, .int .i64 0, .int .i64 0, .bool false, .bool false] [.int .i64 0, .int .i64 0, .int .u32 0, .int .u32 0, .int .i64 0, .int .u32 0, .int .i64 0, .int .i64 0, .int .i64 0, .bool false, .bool false] hS hg_3 ?_)
                          clear hS; intro w g_105 hg_106 hS
                          replace hS : K.Sat w0 [g_39, g_96, g_5, g_105, fr] w := hS
                          refine K.RW.qs [.bool false] (by kernel_rfl) ?_
                          refine K.RW.nil ?_
                          refine K.thn_normal ?_
                          refine K.KW.ret ?_
                          refine K.thn_ret ?_
                          have hE := rdT_eq (W := K.spl 32 l) hkd8 hrk6 (crk2 h_93) (decide_eq_true h_93)
                          refine ⟨.inr rfl, rfl, (.tuple #[.agg #[.int .i64 0, .int .i64 0, .int .u32 0, .int .u32 0, .int .i64 0, .int .u32 0, .int .i64 0, .int .i64 0, .int .i64 0, .bool false, .bool false], .bool false]), K.resAt (rs := [.cell 2 29, .tmp 3]) [.agg #[.int .i64 0, .int .i64 0, .int .u32 0, .int .u32 0, .int .i64 0, .int .u32 0, .int .i64 0, .int .i64 0, .int .i64 0, .bool false, .bool false], .bool false] rfl ⟨⟨_, rfl, K.lvN [.int .i64 0, .int .i64 0, .int .u32 0, .int .u32 0, .int .i64 0, .int .u32 0, .int .i64 0, .int .i64 0, .int .i64 0, .bool false, .bool false] (by kernel_rfl) (by kernel_rfl) (K.cells (K.cl ((hS.blk 3 rfl hg_106).cell rfl) (K.cl ((hS.blk 3 rfl hg_106).cell rfl) (K.cl ((hS.blk 3 rfl hg_106).cell rfl) (K.cl ((hS.blk 3 rfl hg_106).cell rfl) (K.cl ((hS.blk 3 rfl hg_106).cell rfl) (K.cl ((hS.blk 3 rfl hg_106).cell rfl) (K.cl ((hS.blk 3 rfl hg_106).cell rfl) (K.cl ((hS.blk 3 rfl hg_106).cell rfl) (K.cl ((hS.blk 3 rfl hg_106).cell rfl) (K.cl ((hS.blk 3 rfl hg_106).cell rfl) (K.cl ((hS.blk 3 rfl hg_106).cell rfl) K.cl0))))))))))))⟩, rfl, trivial⟩, [], ?_, hS.pick [4]⟩
                          exact ⟨rfl, .inr ⟨fun hh => by first | exact absurd (hE ▸ hh.2.2.2.2.2.1) (by assumption) | (have h9 := hh.2.2.2.2.2.2; rw [hE] at h9; exact absurd h9 (by assumption)), rfl⟩⟩
                      ·  -- no
                        refine K.RW.q rfl (by kernel_rfl) (K.QR.sEq (xs := (K.spl 32 l).getD 9 []) (ys := [107, 101, 112, 116]) false rfl rfl rfl (K.deq_f h_93)) ?_
                        refine K.RW.qs [.bool false, .pointer (some ⟨r_9, 9, none⟩)] (by kernel_rfl) ?_
                        refine K.RW.l rfl (K.OW.gst 1 [.bool false] [.int .i64 (numR ((K.spl 32 l).getD 0 []) 63), .int .i64 kd, .int .u32 (IntKind.u32.wrap (numR ((K.spl 32 l).getD 2 []) 4294967295)), .int .u32 (IntKind.u32.wrap (numR ((K.spl 32 l).getD 3 []) 4294967295)), .int .i64 rk, .int .u32 (IntKind.u32.wrap (numR ((K.spl 32 l).getD 5 []) 4294967295)), .int .i64 (whenT ((K.spl 32 l).getD 6 [])), .int .i64 (whenT ((K.spl 32 l).getD 8 [])), .int .i64 (whenT ((K.spl 32 l).getD 7 [])), .bool false, .bool false] hS hg_66 ?_)
                        clear hS; intro w g_107 hg_108 hS
                        replace hS : K.Sat w0 [g_39, g_107, g_5, g_2, fr] w := hS
                        refine K.RW.nil ?_
                        refine K.thn_normal ?_
                        refine K.KW.seq ?_
                        -- 30 :111
                        refine K.KW.region ?_
                        refine K.RW.qs [.slice (some ⟨b_36, 0, none⟩) ((K.spl 32 l).length) k_6] (by kernel_rfl) ?_
                        refine K.RW.q rfl rfl (K.QR.ix 9 1 rfl rfl rfl Tryd.underlying68 (by kernel_rfl) (by omega) (by first | (simp; done) | omega | (simp; omega))) ?_
                        refine K.RW.q rfl rfl (K.QR.ld1 (v := .string (K.sb ((K.spl 32 l).getD 9 []))) rfl rfl (by kernel_rfl) (K.Own.atS (c := K.cStr) (d := []) (fun _ => rfl) (hS.ownr 2 rfl o_7) rfl 9 (by omega))) ?_
                        refine K.RW.q rfl rfl (K.QR.sEq (xs := (K.spl 32 l).getD 9 []) (ys := [107, 101, 112, 116]) false rfl rfl rfl (K.deq_f h_93)) ?_
                        refine K.RW.qs [.pointer (some ⟨r_9, 10, none⟩)] (by kernel_rfl) ?_
                        refine K.RW.l rfl (K.OW.gst 1 [.bool false] [.int .i64 (numR ((K.spl 32 l).getD 0 []) 63), .int .i64 kd, .int .u32 (IntKind.u32.wrap (numR ((K.spl 32 l).getD 2 []) 4294967295)), .int .u32 (IntKind.u32.wrap (numR ((K.spl 32 l).getD 3 []) 4294967295)), .int .i64 rk, .int .u32 (IntKind.u32.wrap (numR ((K.spl 32 l).getD 5 []) 4294967295)), .int .i64 (whenT ((K.spl 32 l).getD 6 [])), .int .i64 (whenT ((K.spl 32 l).getD 8 [])), .int .i64 (whenT ((K.spl 32 l).getD 7 [])), .bool false, .bool false] hS hg_108 ?_)
                        clear hS; intro w g_109 hg_110 hS
                        replace hS : K.Sat w0 [g_39, g_109, g_5, g_2, fr] w := hS
                        refine K.RW.nil ?_
                        refine K.thn_normal ?_
                        refine K.KW.seq ?_
                        refine K.KW.seq ?_
                        -- 31 :112
                        refine K.KW.region ?_
                        refine K.RW.q rfl rfl (K.QR.ldN [.int .i64 (numR ((K.spl 32 l).getD 0 []) 63), .int .i64 kd, .int .u32 (IntKind.u32.wrap (numR ((K.spl 32 l).getD 2 []) 4294967295)), .int .u32 (IntKind.u32.wrap (numR ((K.spl 32 l).getD 3 []) 4294967295)), .int .i64 rk, .int .u32 (IntKind.u32.wrap (numR ((K.spl 32 l).getD 5 []) 4294967295)), .int .i64 (whenT ((K.spl 32 l).getD 6 [])), .int .i64 (whenT ((K.spl 32 l).getD 8 [])), .int .i64 (whenT ((K.spl 32 l).getD 7 [])), .bool false, .bool false] rfl rfl (by kernel_rfl) (by kernel_rfl) (K.cells (K.cl ((hS.blk 1 rfl hg_110).cell rfl) (K.cl ((hS.blk 1 rfl hg_110).cell rfl) (K.cl ((hS.blk 1 rfl hg_110).cell rfl) (K.cl ((hS.blk 1 rfl hg_110).cell rfl) (K.cl ((hS.blk 1 rfl hg_110).cell rfl) (K.cl ((hS.blk 1 rfl hg_110).cell rfl) (K.cl ((hS.blk 1 rfl hg_110).cell rfl) (K.cl ((hS.blk 1 rfl hg_110).cell rfl) (K.cl ((hS.blk 1 rfl hg_110).cell rfl) (K.cl ((hS.blk 1 rfl hg_110).cell rfl) (K.cl ((hS.blk 1 rfl hg_110).cell rfl) K.cl0))))))))))))) ?_
                        refine K.RW.l rfl (K.OW.gcall hS [] [0, 1, 2, 3, 4] [.agg #[.int .i64 (numR ((K.spl 32 l).getD 0 []) 63), .int .i64 kd, .int .u32 (IntKind.u32.wrap (numR ((K.spl 32 l).getD 2 []) 4294967295)), .int .u32 (IntKind.u32.wrap (numR ((K.spl 32 l).getD 3 []) 4294967295)), .int .i64 rk, .int .u32 (IntKind.u32.wrap (numR ((K.spl 32 l).getD 5 []) 4294967295)), .int .i64 (whenT ((K.spl 32 l).getD 6 [])), .int .i64 (whenT ((K.spl 32 l).getD 8 [])), .int .i64 (whenT ((K.spl 32 l).getD 7 [])), .bool false, .bool false]] (rmay_ok _ (⟨(numR ((K.spl 32 l).getD 0 []) 63), kd, IntKind.u32.wrap (numR ((K.spl 32 l).getD 2 []) 4294967295), IntKind.u32.wrap (numR ((K.spl 32 l).getD 3 []) 4294967295), rk, IntKind.u32.wrap (numR ((K.spl 32 l).getD 5 []) 4294967295), (whenT ((K.spl 32 l).getD 6 [])), (whenT ((K.spl 32 l).getD 8 [])), (whenT ((K.spl 32 l).getD 7 [])), false, false⟩ : CallM)) ?_)
                        clear hS; rintro _ _ w ⟨rfl, (⟨h_111, rfl⟩ | ⟨h_112, rfl⟩)⟩ hS
                        ·
                          replace hS : K.Sat w0 [g_39, g_109, g_5, g_2, fr] w := hS
                          refine K.RW.qs [.bool false, .bool false] (by kernel_rfl) ?_
                          refine K.RW.q rfl (by kernel_rfl) (K.QR.ldN [.int .i64 (numR ((K.spl 32 l).getD 0 []) 63), .int .i64 kd, .int .u32 (IntKind.u32.wrap (numR ((K.spl 32 l).getD 2 []) 4294967295)), .int .u32 (IntKind.u32.wrap (numR ((K.spl 32 l).getD 3 []) 4294967295)), .int .i64 rk, .int .u32 (IntKind.u32.wrap (numR ((K.spl 32 l).getD 5 []) 4294967295)), .int .i64 (whenT ((K.spl 32 l).getD 6 [])), .int .i64 (whenT ((K.spl 32 l).getD 8 [])), .int .i64 (whenT ((K.spl 32 l).getD 7 [])), .bool false, .bool false] rfl rfl (by kernel_rfl) (by kernel_rfl) (K.cells (K.cl ((hS.blk 1 rfl hg_110).cell rfl) (K.cl ((hS.blk 1 rfl hg_110).cell rfl) (K.cl ((hS.blk 1 rfl hg_110).cell rfl) (K.cl ((hS.blk 1 rfl hg_110).cell rfl) (K.cl ((hS.blk 1 rfl hg_110).cell rfl) (K.cl ((hS.blk 1 rfl hg_110).cell rfl) (K.cl ((hS.blk 1 rfl hg_110).cell rfl) (K.cl ((hS.blk 1 rfl hg_110).cell rfl) (K.cl ((hS.blk 1 rfl hg_110).cell rfl) (K.cl ((hS.blk 1 rfl hg_110).cell rfl) (K.cl ((hS.blk 1 rfl hg_110).cell rfl) K.cl0))))))))))))) ?_
                          refine K.RW.l (by kernel_rfl) (K.OW.gcall hS [] [0, 1, 2, 3, 4] [.agg #[.int .i64 (numR ((K.spl 32 l).getD 0 []) 63), .int .i64 kd, .int .u32 (IntKind.u32.wrap (numR ((K.spl 32 l).getD 2 []) 4294967295)), .int .u32 (IntKind.u32.wrap (numR ((K.spl 32 l).getD 3 []) 4294967295)), .int .i64 rk, .int .u32 (IntKind.u32.wrap (numR ((K.spl 32 l).getD 5 []) 4294967295)), .int .i64 (whenT ((K.spl 32 l).getD 6 [])), .int .i64 (whenT ((K.spl 32 l).getD 8 [])), .int .i64 (whenT ((K.spl 32 l).getD 7 [])), .bool false, .bool false]] (rline_ok _ (⟨(numR ((K.spl 32 l).getD 0 []) 63), kd, IntKind.u32.wrap (numR ((K.spl 32 l).getD 2 []) 4294967295), IntKind.u32.wrap (numR ((K.spl 32 l).getD 3 []) 4294967295), rk, IntKind.u32.wrap (numR ((K.spl 32 l).getD 5 []) 4294967295), (whenT ((K.spl 32 l).getD 6 [])), (whenT ((K.spl 32 l).getD 8 [])), (whenT ((K.spl 32 l).getD 7 [])), false, false⟩ : CallM) (may_fits (by assumption)) (by assumption)) ?_)
                          clear hS; rintro _ _ w ⟨rfl, rfl⟩ hS
                          replace hS : K.Sat w0 [g_39, g_109, g_5, g_2, fr] w := hS
                          refine K.RW.qs [.string (K.sb l)] (by kernel_rfl) ?_
                          by_cases h_113 : (lineR (⟨(numR ((K.spl 32 l).getD 0 []) 63), kd, IntKind.u32.wrap (numR ((K.spl 32 l).getD 2 []) 4294967295), IntKind.u32.wrap (numR ((K.spl 32 l).getD 3 []) 4294967295), rk, IntKind.u32.wrap (numR ((K.spl 32 l).getD 5 []) 4294967295), (whenT ((K.spl 32 l).getD 6 [])), (whenT ((K.spl 32 l).getD 8 [])), (whenT ((K.spl 32 l).getD 7 [])), false, false⟩ : CallM)) = l
                          ·  -- yes
                            refine K.RW.q rfl (by kernel_rfl) (K.QR.sNe (xs := (lineR (⟨(numR ((K.spl 32 l).getD 0 []) 63), kd, IntKind.u32.wrap (numR ((K.spl 32 l).getD 2 []) 4294967295), IntKind.u32.wrap (numR ((K.spl 32 l).getD 3 []) 4294967295), rk, IntKind.u32.wrap (numR ((K.spl 32 l).getD 5 []) 4294967295), (whenT ((K.spl 32 l).getD 6 [])), (whenT ((K.spl 32 l).getD 8 [])), (whenT ((K.spl 32 l).getD 7 [])), false, false⟩ : CallM))) (ys := l) false rfl rfl rfl (K.ndeq_t h_113)) ?_
                            refine K.RW.qs [.bool false] (by kernel_rfl) ?_
                            refine K.RW.nil ?_
                            refine K.thn_normal ?_
                            refine K.KW.ifF rfl ?_
                            refine K.KW.skip ?_
                            refine K.thn_normal ?_
                            refine K.KW.seq ?_
                            -- 33 :115
                            refine K.KW.region ?_
                            refine K.RW.q rfl rfl (K.QR.ldN [.int .i64 (numR ((K.spl 32 l).getD 0 []) 63), .int .i64 kd, .int .u32 (IntKind.u32.wrap (numR ((K.spl 32 l).getD 2 []) 4294967295)), .int .u32 (IntKind.u32.wrap (numR ((K.spl 32 l).getD 3 []) 4294967295)), .int .i64 rk, .int .u32 (IntKind.u32.wrap (numR ((K.spl 32 l).getD 5 []) 4294967295)), .int .i64 (whenT ((K.spl 32 l).getD 6 [])), .int .i64 (whenT ((K.spl 32 l).getD 8 [])), .int .i64 (whenT ((K.spl 32 l).getD 7 [])), .bool false, .bool false] rfl rfl (by kernel_rfl) (by kernel_rfl) (K.cells (K.cl ((hS.blk 1 rfl hg_110).cell rfl) (K.cl ((hS.blk 1 rfl hg_110).cell rfl) (K.cl ((hS.blk 1 rfl hg_110).cell rfl) (K.cl ((hS.blk 1 rfl hg_110).cell rfl) (K.cl ((hS.blk 1 rfl hg_110).cell rfl) (K.cl ((hS.blk 1 rfl hg_110).cell rfl) (K.cl ((hS.blk 1 rfl hg_110).cell rfl) (K.cl ((hS.blk 1 rfl hg_110).cell rfl) (K.cl ((hS.blk 1 rfl hg_110).cell rfl) (K.cl ((hS.blk 1 rfl hg_110).cell rfl) (K.cl ((hS.blk 1 rfl hg_110).cell rfl) K.cl0))))))))))))) ?_
                            refine K.RW.l rfl (K.OW.gst 3 [.int .i64 (numR ((K.spl 32 l).getD 0 []) 63), .int .i64 kd, .int .u32 (IntKind.u32.wrap (numR ((K.spl 32 l).getD 2 []) 4294967295)), .int .u32 (IntKind.u32.wrap (numR ((K.spl 32 l).getD 3 []) 4294967295)), .int .i64 rk, .int .u32 (IntKind.u32.wrap (numR ((K.spl 32 l).getD 5 []) 4294967295)), .int .i64 (whenT ((K.spl 32 l).getD 6 [])), .int .i64 (whenT ((K.spl 32 l).getD 8 [])), .int .i64 (whenT ((K.spl 32 l).getD 7 [])), .bool false, .bool false] [.int .i64 (numR ((K.spl 32 l).getD 0 []) 63), .int .i64 kd, .int .u32 (IntKind.u32.wrap (numR ((K.spl 32 l).getD 2 []) 4294967295)), .int .u32 (IntKind.u32.wrap (numR ((K.spl 32 l).getD 3 []) 4294967295)), .int .i64 rk, .int .u32 (IntKind.u32.wrap (numR ((K.spl 32 l).getD 5 []) 4294967295)), .int .i64 (whenT ((K.spl 32 l).getD 6 [])), .int .i64 (whenT ((K.spl 32 l).getD 8 [])), .int .i64 (whenT ((K.spl 32 l).getD 7 [])), .bool false, .bool false] hS hg_3 ?_)
                            clear hS; intro w g_114 hg_115 hS
                            replace hS : K.Sat w0 [g_39, g_109, g_5, g_114, fr] w := hS
                            refine K.RW.qs [.bool true] (by kernel_rfl) ?_
                            refine K.RW.nil ?_
                            refine K.thn_normal ?_
                            refine K.KW.ret ?_
                            have hE := rdT_eq (W := K.spl 32 l) hkd8 hrk6 (crk0 h_67 h_93) (decide_eq_false h_93)
                            refine ⟨.inr rfl, rfl, (.tuple #[.agg #[.int .i64 (numR ((K.spl 32 l).getD 0 []) 63), .int .i64 kd, .int .u32 (IntKind.u32.wrap (numR ((K.spl 32 l).getD 2 []) 4294967295)), .int .u32 (IntKind.u32.wrap (numR ((K.spl 32 l).getD 3 []) 4294967295)), .int .i64 rk, .int .u32 (IntKind.u32.wrap (numR ((K.spl 32 l).getD 5 []) 4294967295)), .int .i64 (whenT ((K.spl 32 l).getD 6 [])), .int .i64 (whenT ((K.spl 32 l).getD 8 [])), .int .i64 (whenT ((K.spl 32 l).getD 7 [])), .bool false, .bool false], .bool true]), K.resAt (rs := [.cell 2 29, .tmp 3]) [.agg #[.int .i64 (numR ((K.spl 32 l).getD 0 []) 63), .int .i64 kd, .int .u32 (IntKind.u32.wrap (numR ((K.spl 32 l).getD 2 []) 4294967295)), .int .u32 (IntKind.u32.wrap (numR ((K.spl 32 l).getD 3 []) 4294967295)), .int .i64 rk, .int .u32 (IntKind.u32.wrap (numR ((K.spl 32 l).getD 5 []) 4294967295)), .int .i64 (whenT ((K.spl 32 l).getD 6 [])), .int .i64 (whenT ((K.spl 32 l).getD 8 [])), .int .i64 (whenT ((K.spl 32 l).getD 7 [])), .bool false, .bool false], .bool true] rfl ⟨⟨_, rfl, K.lvN [.int .i64 (numR ((K.spl 32 l).getD 0 []) 63), .int .i64 kd, .int .u32 (IntKind.u32.wrap (numR ((K.spl 32 l).getD 2 []) 4294967295)), .int .u32 (IntKind.u32.wrap (numR ((K.spl 32 l).getD 3 []) 4294967295)), .int .i64 rk, .int .u32 (IntKind.u32.wrap (numR ((K.spl 32 l).getD 5 []) 4294967295)), .int .i64 (whenT ((K.spl 32 l).getD 6 [])), .int .i64 (whenT ((K.spl 32 l).getD 8 [])), .int .i64 (whenT ((K.spl 32 l).getD 7 [])), .bool false, .bool false] (by kernel_rfl) (by kernel_rfl) (K.cells (K.cl ((hS.blk 3 rfl hg_115).cell rfl) (K.cl ((hS.blk 3 rfl hg_115).cell rfl) (K.cl ((hS.blk 3 rfl hg_115).cell rfl) (K.cl ((hS.blk 3 rfl hg_115).cell rfl) (K.cl ((hS.blk 3 rfl hg_115).cell rfl) (K.cl ((hS.blk 3 rfl hg_115).cell rfl) (K.cl ((hS.blk 3 rfl hg_115).cell rfl) (K.cl ((hS.blk 3 rfl hg_115).cell rfl) (K.cl ((hS.blk 3 rfl hg_115).cell rfl) (K.cl ((hS.blk 3 rfl hg_115).cell rfl) (K.cl ((hS.blk 3 rfl hg_115).cell rfl) K.cl0))))))))))))⟩, rfl, trivial⟩, [], ?_, hS.pick [4]⟩
                            exact ⟨rfl, .inl ⟨⟨by omega, by omega, by omega, by omega, by omega, by rw [hE]; assumption, by rw [hE]; assumption⟩, by rw [hE]; rfl⟩⟩
                          ·  -- no
                            refine K.RW.q rfl (by kernel_rfl) (K.QR.sNe (xs := (lineR (⟨(numR ((K.spl 32 l).getD 0 []) 63), kd, IntKind.u32.wrap (numR ((K.spl 32 l).getD 2 []) 4294967295), IntKind.u32.wrap (numR ((K.spl 32 l).getD 3 []) 4294967295), rk, IntKind.u32.wrap (numR ((K.spl 32 l).getD 5 []) 4294967295), (whenT ((K.spl 32 l).getD 6 [])), (whenT ((K.spl 32 l).getD 8 [])), (whenT ((K.spl 32 l).getD 7 [])), false, false⟩ : CallM))) (ys := l) true rfl rfl rfl (K.ndeq_f h_113)) ?_
                            refine K.RW.qs [.bool true] (by kernel_rfl) ?_
                            refine K.RW.nil ?_
                            refine K.thn_normal ?_
                            refine K.KW.ifT rfl ?_
                            refine K.KW.seq ?_
                            -- 32 :113
                            refine K.KW.region ?_
                            refine K.RW.q rfl rfl (K.QR.bd [] [.int .i64 0, .int .i64 0, .int .u32 0, .int .u32 0, .int .i64 0, .int .u32 0, .int .i64 0, .int .i64 0, .int .i64 0, .bool false, .bool false] rfl rfl (by kernel_rfl)) ?_
                            refine K.RW.l rfl (K.OW.gst 3 [.int .i64 0, .int .i64 0, .int .u32 0, .int .u32 0, .int .i64 0, .int .u32 0, .int .i64 0, .int .i64 0, .int .i64 0, .bool false, .bool false] [.int .i64 0, .int .i64 0, .int .u32 0, .int .u32 0, .int .i64 0, .int .u32 0, .int .i64 0, .int .i64 0, .int .i64 0, .bool false, .bool false] hS hg_3 ?_)
                            clear hS; intro w g_116 hg_117 hS
                            replace hS : K.Sat w0 [g_39, g_109, g_5, g_116, fr] w := hS
                            refine K.RW.qs [.bool false] (by kernel_rfl) ?_
                            refine K.RW.nil ?_
                            refine K.thn_normal ?_
                            refine K.KW.ret ?_
                            refine K.thn_ret ?_
                            have hE := rdT_eq (W := K.spl 32 l) hkd8 hrk6 (crk0 h_67 h_93) (decide_eq_false h_93)
                            refine ⟨.inr rfl, rfl, (.tuple #[.agg #[.int .i64 0, .int .i64 0, .int .u32 0, .int .u32 0, .int .i64 0, .int .u32 0, .int .i64 0, .int .i64 0, .int .i64 0, .bool false, .bool false], .bool false]), K.resAt (rs := [.cell 2 29, .tmp 3]) [.agg #[.int .i64 0, .int .i64 0, .int .u32 0, .int .u32 0, .int .i64 0, .int .u32 0, .int .i64 0, .int .i64 0, .int .i64 0, .bool false, .bool false], .bool false] rfl ⟨⟨_, rfl, K.lvN [.int .i64 0, .int .i64 0, .int .u32 0, .int .u32 0, .int .i64 0, .int .u32 0, .int .i64 0, .int .i64 0, .int .i64 0, .bool false, .bool false] (by kernel_rfl) (by kernel_rfl) (K.cells (K.cl ((hS.blk 3 rfl hg_117).cell rfl) (K.cl ((hS.blk 3 rfl hg_117).cell rfl) (K.cl ((hS.blk 3 rfl hg_117).cell rfl) (K.cl ((hS.blk 3 rfl hg_117).cell rfl) (K.cl ((hS.blk 3 rfl hg_117).cell rfl) (K.cl ((hS.blk 3 rfl hg_117).cell rfl) (K.cl ((hS.blk 3 rfl hg_117).cell rfl) (K.cl ((hS.blk 3 rfl hg_117).cell rfl) (K.cl ((hS.blk 3 rfl hg_117).cell rfl) (K.cl ((hS.blk 3 rfl hg_117).cell rfl) (K.cl ((hS.blk 3 rfl hg_117).cell rfl) K.cl0))))))))))))⟩, rfl, trivial⟩, [], ?_, hS.pick [4]⟩
                            exact ⟨rfl, .inr ⟨fun hh => by first | exact absurd (hE ▸ hh.2.2.2.2.2.1) (by assumption) | (have h9 := hh.2.2.2.2.2.2; rw [hE] at h9; exact absurd h9 (by assumption)), rfl⟩⟩
                        ·
                          replace hS : K.Sat w0 [g_39, g_109, g_5, g_2, fr] w := hS
                          refine K.RW.qs [.bool true, .bool true] (by kernel_rfl) ?_
                          refine K.RW.skip rfl (by kernel_rfl) ?_
                          refine K.RW.skip rfl (by kernel_rfl) ?_
                          refine K.RW.skip rfl (by kernel_rfl) ?_
                          refine K.RW.skip rfl (by kernel_rfl) ?_
                          refine K.RW.qs [.bool true] (by kernel_rfl) ?_
                          refine K.RW.nil ?_
                          refine K.thn_normal ?_
                          refine K.KW.ifT rfl ?_
                          refine K.KW.seq ?_
                          -- 32 :113
                          refine K.KW.region ?_
                          refine K.RW.q rfl rfl (K.QR.bd [] [.int .i64 0, .int .i64 0, .int .u32 0, .int .u32 0, .int .i64 0, .int .u32 0, .int .i64 0, .int .i64 0, .int .i64 0, .bool false, .bool false] rfl rfl (by kernel_rfl)) ?_
                          refine K.RW.l rfl (K.OW.gst 3 [.int .i64 0, .int .i64 0, .int .u32 0, .int .u32 0, .int .i64 0, .int .u32 0, .int .i64 0, .int .i64 0, .int .i64 0, .bool false, .bool false] [.int .i64 0, .int .i64 0, .int .u32 0, .int .u32 0, .int .i64 0, .int .u32 0, .int .i64 0, .int .i64 0, .int .i64 0, .bool false, .bool false] hS hg_3 ?_)
                          clear hS; intro w g_118 hg_119 hS
                          replace hS : K.Sat w0 [g_39, g_109, g_5, g_118, fr] w := hS
                          refine K.RW.qs [.bool false] (by kernel_rfl) ?_
                          refine K.RW.nil ?_
                          refine K.thn_normal ?_
                          refine K.KW.ret ?_
                          refine K.thn_ret ?_
                          have hE := rdT_eq (W := K.spl 32 l) hkd8 hrk6 (crk0 h_67 h_93) (decide_eq_false h_93)
                          refine ⟨.inr rfl, rfl, (.tuple #[.agg #[.int .i64 0, .int .i64 0, .int .u32 0, .int .u32 0, .int .i64 0, .int .u32 0, .int .i64 0, .int .i64 0, .int .i64 0, .bool false, .bool false], .bool false]), K.resAt (rs := [.cell 2 29, .tmp 3]) [.agg #[.int .i64 0, .int .i64 0, .int .u32 0, .int .u32 0, .int .i64 0, .int .u32 0, .int .i64 0, .int .i64 0, .int .i64 0, .bool false, .bool false], .bool false] rfl ⟨⟨_, rfl, K.lvN [.int .i64 0, .int .i64 0, .int .u32 0, .int .u32 0, .int .i64 0, .int .u32 0, .int .i64 0, .int .i64 0, .int .i64 0, .bool false, .bool false] (by kernel_rfl) (by kernel_rfl) (K.cells (K.cl ((hS.blk 3 rfl hg_119).cell rfl) (K.cl ((hS.blk 3 rfl hg_119).cell rfl) (K.cl ((hS.blk 3 rfl hg_119).cell rfl) (K.cl ((hS.blk 3 rfl hg_119).cell rfl) (K.cl ((hS.blk 3 rfl hg_119).cell rfl) (K.cl ((hS.blk 3 rfl hg_119).cell rfl) (K.cl ((hS.blk 3 rfl hg_119).cell rfl) (K.cl ((hS.blk 3 rfl hg_119).cell rfl) (K.cl ((hS.blk 3 rfl hg_119).cell rfl) (K.cl ((hS.blk 3 rfl hg_119).cell rfl) (K.cl ((hS.blk 3 rfl hg_119).cell rfl) K.cl0))))))))))))⟩, rfl, trivial⟩, [], ?_, hS.pick [4]⟩
                          exact ⟨rfl, .inr ⟨fun hh => by first | exact absurd (hE ▸ hh.2.2.2.2.2.1) (by assumption) | (have h9 := hh.2.2.2.2.2.2; rw [hE] at h9; exact absurd h9 (by assumption)), rfl⟩⟩
  ·  -- no
    refine K.RW.q rfl rfl (K.QR.nice (v := .bool (((((K.spl 32 l).length : Nat) : Int) : Int) != (10 : Int))) (by kernel_rfl) (congrArg Value.bool (bne_iff_ne.2 h_8))) ?_
    refine K.RW.nil ?_
    refine K.thn_normal ?_
    refine K.KW.ifT rfl ?_
    refine K.KW.seq ?_
    -- 3 :83
    refine K.KW.region ?_
    refine K.RW.q rfl rfl (K.QR.bd [] [.int .i64 0, .int .i64 0, .int .u32 0, .int .u32 0, .int .i64 0, .int .u32 0, .int .i64 0, .int .i64 0, .int .i64 0, .bool false, .bool false] rfl rfl (by kernel_rfl)) ?_
    refine K.RW.l rfl (K.OW.gst 1 [.int .i64 0, .int .i64 0, .int .u32 0, .int .u32 0, .int .i64 0, .int .u32 0, .int .i64 0, .int .i64 0, .int .i64 0, .bool false, .bool false] [.int .i64 0, .int .i64 0, .int .u32 0, .int .u32 0, .int .i64 0, .int .u32 0, .int .i64 0, .int .i64 0, .int .i64 0, .bool false, .bool false] hS hg_3 ?_)
    clear hS; intro w g_120 hg_121 hS
    replace hS : K.Sat w0 [g_5, g_120, fr] w := hS
    refine K.RW.qs [.bool false] (by kernel_rfl) ?_
    refine K.RW.nil ?_
    refine K.thn_normal ?_
    refine K.KW.ret ?_
    refine K.thn_ret ?_
    refine ⟨.inr rfl, rfl, (.tuple #[.agg #[.int .i64 0, .int .i64 0, .int .u32 0, .int .u32 0, .int .i64 0, .int .u32 0, .int .i64 0, .int .i64 0, .int .i64 0, .bool false, .bool false], .bool false]), K.resAt (rs := [.cell 2 29, .tmp 3]) [.agg #[.int .i64 0, .int .i64 0, .int .u32 0, .int .u32 0, .int .i64 0, .int .u32 0, .int .i64 0, .int .i64 0, .int .i64 0, .bool false, .bool false], .bool false] rfl ⟨⟨_, rfl, K.lvN [.int .i64 0, .int .i64 0, .int .u32 0, .int .u32 0, .int .i64 0, .int .u32 0, .int .i64 0, .int .i64 0, .int .i64 0, .bool false, .bool false] (by kernel_rfl) (by kernel_rfl) (K.cells (K.cl ((hS.blk 1 rfl hg_121).cell rfl) (K.cl ((hS.blk 1 rfl hg_121).cell rfl) (K.cl ((hS.blk 1 rfl hg_121).cell rfl) (K.cl ((hS.blk 1 rfl hg_121).cell rfl) (K.cl ((hS.blk 1 rfl hg_121).cell rfl) (K.cl ((hS.blk 1 rfl hg_121).cell rfl) (K.cl ((hS.blk 1 rfl hg_121).cell rfl) (K.cl ((hS.blk 1 rfl hg_121).cell rfl) (K.cl ((hS.blk 1 rfl hg_121).cell rfl) (K.cl ((hS.blk 1 rfl hg_121).cell rfl) (K.cl ((hS.blk 1 rfl hg_121).cell rfl) K.cl0))))))))))))⟩, rfl, trivial⟩, [], ?_, hS.pick [2]⟩
    exact ⟨rfl, .inr ⟨fun hh => by have h1 := hh.1; have h2 := hh.2.1; have h3 := hh.2.2.1; have h4 := hh.2.2.2.1; have h5 := hh.2.2.2.2.1; omega, rfl⟩⟩
end Go.Proofs.YtnehocjmgnhhhaaDoor
