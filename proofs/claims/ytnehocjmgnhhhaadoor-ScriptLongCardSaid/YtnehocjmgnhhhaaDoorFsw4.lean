import Derived.Test.YtnehocjmgnhhhaaDoorFsw3
/- Scripts: Write. -/
namespace Go.Proofs.YtnehocjmgnhhhaaDoor
open Go.RowKit
set_option linter.unusedVariables false
attribute [local irreducible] K.KW K.RW K.DW K.OW K.QR K.KC
theorem allAf_drop {L : List ActM} {n : Nat} (h : allAf L) : allAf (L.drop n) := fun q => by rw [getD_drop]; exact h _
theorem allRt_drop {L : List ActM} {n : Nat} (h : allRt L) : allRt (L.drop n) := fun q hq => by rw [List.length_drop] at hq; rw [getD_drop]; exact h _ (by omega)
theorem wr_len {L Lk : List ActM} {o : List UInt8} {n : Nat} (h : o.length ≤ 110 * (L.length - Lk.length)) (h2 : Lk.length ≤ L.length) (h3 : n ≤ Lk.length) (h1 : 1 ≤ n) {x : List UInt8} (hx : x.length ≤ 106) : (o ++ x).length ≤ 110 * (L.length - (Lk.drop n).length) := by
  rw [List.length_append, List.length_drop]; omega
set_option maxHeartbeats 8000000 in
set_option maxRecDepth 100000 in
theorem swr_ok (w0 : World) (a : Option Addr) (cap : Nat) (L : List ActM) (hm : L.length ≤ 1000000) (hc : L.length ≤ cap) (haf0 : allAf L) (gx : K.Cs) (hx : ∀ w, K.Sat w0 [gx] w → K.RowE w a L.length 6 (fun i => cAct (L.getD i act0))) :
    K.GC Tryd.prog w0 25 #[.slice a L.length cap] [gx] (fun v post => post = [gx] ∧ ((¬ allRt L ∧ v = .tuple #[.string (K.sb []), .int .i64 1]) ∨ (allRt L ∧ (20000 < L.length ∨ 65536 < (wrM L).length) ∧ v = .tuple #[.string (K.sb []), .int .i64 2]) ∨ (allRt L ∧ L.length ≤ 20000 ∧ (wrM L).length ≤ 65536 ∧ v = .tuple #[.string (K.sb (wrM L)), .int .i64 0]))) := by
  refine K.GC.mk (n := 32) Tryd.func25 rfl rfl [.slice a L.length cap] rfl rfl ?_
  intro fr w hS
  replace hS : K.Sat w0 [gx, fr] w := hS
  refine K.KW.seq ?_
  -- 0 :245
  refine K.KW.region ?_
  refine K.RW.qs [.string (K.sb []), .int .i64 0] (by kernel_rfl) ?_
  refine K.RW.nil ?_
  refine K.thn_normal ?_
  refine K.KW.seq ?_
  refine K.KW.block ?_
  refine K.KW.seq ?_
  -- 2 :247
  refine K.KW.region ?_
  refine K.RW.qs [.slice a L.length cap] (by kernel_rfl) ?_
  refine K.RW.l rfl (K.OW.gcall hS [0] [1] [.slice a L.length cap, .func (.func 67) [].toArray [].toArray] (ctact_ok _ _ _ L (by omega) _ hx) ?_)
  clear hS; rintro _ _ w ⟨rfl, (⟨h_1, rfl⟩ | ⟨h_2, rfl⟩)⟩ hS
  ·
    replace hS : K.Sat w0 [gx, fr] w := hS
    refine K.RW.qs [.bool false, .bool false] (by kernel_rfl) ?_
    refine K.RW.nil ?_
    refine K.thn_normal ?_
    refine K.KW.ifF rfl ?_
    refine K.KW.seq ?_
    -- 1 :249
    refine K.KW.region ?_
    refine K.RW.qs [.string (K.sb []), .int .i64 1] (by kernel_rfl) ?_
    refine K.RW.nil ?_
    refine K.thn_normal ?_
    refine K.KW.ret ?_
    refine K.blk_ret ?_
    refine K.thn_ret ?_
    refine ⟨.inr rfl, rfl, (.tuple #[.string (K.sb []), .int .i64 1]), K.res2 rfl rfl rfl, [gx], ?_, hS.pick [0, 1]⟩
    exact ⟨rfl, .inl ⟨by assumption, rfl⟩⟩
  ·
    replace hS : K.Sat w0 [gx, fr] w := hS
    refine K.RW.qs [.bool true, .bool true] (by kernel_rfl) ?_
    refine K.RW.nil ?_
    refine K.thn_normal ?_
    refine K.KW.ifT rfl ?_
    refine K.KW.skip ?_
    refine K.blk_normal ?_
    refine K.thn_normal ?_
    refine K.KW.seq ?_
    refine K.KW.seq ?_
    -- 3 :251
    have hall : allRt L := by first | assumption | exact Classical.byContradiction fun hh => absurd hh (by assumption)
    refine K.KW.region ?_
    refine K.RW.qs [.slice a L.length cap] (by kernel_rfl) ?_
    refine K.RW.q rfl rfl (K.QR.len (P := Tryd.prog) rfl rfl Tryd.underlying54) ?_
    by_cases h_3 : (((L.length : Nat) : Int) : Int) > (20000 : Int)
    ·  -- yes
      refine K.RW.q rfl rfl (K.QR.nice (v := .bool (decide ((((L.length : Nat) : Int) : Int) > (20000 : Int)))) (by kernel_rfl) (congrArg Value.bool (decide_eq_true h_3))) ?_
      refine K.RW.nil ?_
      refine K.thn_normal ?_
      refine K.KW.ifT rfl ?_
      refine K.KW.seq ?_
      -- 4 :252
      refine K.KW.region ?_
      refine K.RW.qs [.string (K.sb []), .int .i64 2] (by kernel_rfl) ?_
      refine K.RW.nil ?_
      refine K.thn_normal ?_
      refine K.KW.ret ?_
      refine K.thn_ret ?_
      refine ⟨.inr rfl, rfl, (.tuple #[.string (K.sb []), .int .i64 2]), K.res2 rfl rfl rfl, [gx], ?_, hS.pick [0, 1]⟩
      exact ⟨rfl, .inr (.inl ⟨hall, .inl (by omega), rfl⟩)⟩
    ·  -- no
      refine K.RW.q rfl rfl (K.QR.nice (v := .bool (decide ((((L.length : Nat) : Int) : Int) > (20000 : Int)))) (by kernel_rfl) (congrArg Value.bool (decide_eq_false h_3))) ?_
      refine K.RW.nil ?_
      refine K.thn_normal ?_
      refine K.KW.ifF rfl ?_
      refine K.KW.skip ?_
      refine K.thn_normal ?_
      refine K.KW.seq ?_
      -- 5 :254
      refine K.KW.region ?_
      refine K.RW.l rfl (K.OW.gnew 83 [.pointer none, .slice none 0 0] hS ?_)
      clear hS; intro w r_4 g_5 hg_6 hS
      refine K.RW.nil ?_
      refine K.thn_normal ?_
      refine K.KW.seq ?_
      refine K.KW.block ?_
      have hbl_7 : BldG g_5 r_4 [] := bldNew hg_6
      refine K.KW.loop (fun m_ F_ w_ => ∃ (q1 : Option Addr) (Lk : List ActM) (c1 : Nat) (o : List UInt8) (g1 : K.Cs), m_ = Lk.length ∧ K.Sl F_ [(0, .slice q1 Lk.length c1), (2, .string (K.sb [])), (3, .int .i64 0), (4, .pointer (some ⟨r_4, 0, none⟩)), (32, undef)] ∧ Lk.length ≤ L.length ∧ Lk.length ≤ c1 ∧ (∀ w, K.Sat w0 [gx] w → K.RowE w q1 Lk.length 6 (fun i => cAct (Lk.getD i act0))) ∧ o ++ wrM Lk = wrM L ∧ o.length ≤ 110 * (L.length - Lk.length) ∧ allRt Lk ∧ allAf Lk ∧ BldG g1 r_4 o ∧ K.Sat w0 [g1, gx, fr] w_) ((fun (q1 : Option Addr) (Lk : List ActM) (c1 : Nat) (o : List UInt8) => Lk.length) a L cap []) ?_ ?_
      · -- begins
        exact ⟨a, L, cap, [], g_5, rfl, ⟨by rfl, by rfl, by rfl, by rfl, by rfl, trivial⟩, (by omega), (hc), (hx), (rfl), (by simp), (hall), (haf0), hbl_7, hS.pick [0, 1, 2]⟩
      · -- a round
        clear hS
        intro m_8 F_9 w hI
        obtain ⟨q1, Lk, c1, o, g1, rfl, sl_10, p_11, p_12, hxq, ho, hol, hrt, haf, x_13, hS⟩ := hI
        rw [← K.Sl.puts sl_10]; clear sl_10
        refine K.KW.seq ?_
        refine K.KW.seq ?_
        -- 6 :255
        refine K.KW.region ?_
        refine K.RW.qs [.slice q1 Lk.length c1] (by kernel_rfl) ?_
        refine K.RW.q rfl rfl (K.QR.len (P := Tryd.prog) rfl rfl Tryd.underlying54) ?_
        by_cases h_14 : (((Lk.length : Nat) : Int) : Int) > (0 : Int)
        ·  -- yes
          refine K.RW.q rfl rfl (K.QR.nice (v := .bool (decide ((((Lk.length : Nat) : Int) : Int) > (0 : Int)))) (by kernel_rfl) (congrArg Value.bool (decide_eq_true h_14))) ?_
          refine K.RW.nil ?_
          refine K.thn_normal ?_
          refine K.KW.ifT rfl ?_
          refine K.KW.skip ?_
          refine K.thn_normal ?_
          refine K.KW.block ?_
          refine K.KW.seq ?_
          -- 7 :256
          refine K.KW.region ?_
          refine K.RW.qs [.slice q1 Lk.length c1] (by kernel_rfl) ?_
          refine K.RW.l rfl (K.OW.gcall hS [1] [0, 2] [.slice q1 Lk.length c1] (alike_ok _ _ _ Lk (by omega) (by omega) _ hxq) ?_)
          clear hS; rintro _ _ w ⟨rfl, rfl⟩ hS
          replace hS : K.Sat w0 [gx, g1, fr] w := hS
          refine K.RW.qs [.int .i64 (((alk Lk) : Nat) : Int)] (by kernel_rfl) ?_
          refine K.RW.nil ?_
          refine K.thn_normal ?_
          refine K.KW.seq ?_
          -- 8 :257
          have hap := alk_P (L := Lk) (by omega)
          have ha1 := hap.1
          have ha2 := hap.2.1
          have ha3 := hap.2.2.1
          have hr0 : rightO (Lk.getD 0 act0) := hrt 0 (by omega)
          have hwl := wordsA_sum (n := alk Lk) hr0 (haf 0) (by omega)
          obtain ⟨b_15, of_16, rfl, _⟩ := (hxq _ (hS.pick [0])).at_ (by omega)
          refine K.KW.region ?_
          refine K.RW.qs [.slice (some ⟨b_15, of_16, none⟩) Lk.length c1] (by kernel_rfl) ?_
          refine K.RW.q rfl rfl (K.QR.ix (of_16 + 0 * 6) 6 rfl rfl rfl Tryd.underlying54 (by kernel_rfl) (by omega) (by first | (simp; done) | omega | (simp; omega))) ?_
          refine K.RW.q rfl rfl (K.QR.ldN [.int .i64 ((Lk.getD 0 act0).k), .int .i64 ((Lk.getD 0 act0).th), .int .i64 ((Lk.getD 0 act0).ln), .int .i64 ((Lk.getD 0 act0).ok), .int .u32 ((Lk.getD 0 act0).key), .int .u32 ((Lk.getD 0 act0).val)] rfl rfl (by kernel_rfl) (by kernel_rfl) (K.cells (K.cl ((hxq _ (hS.pick [0])).ld 0 (by omega) 0 _ rfl) (K.cl ((hxq _ (hS.pick [0])).ld 0 (by omega) 1 _ rfl) (K.cl ((hxq _ (hS.pick [0])).ld 0 (by omega) 2 _ rfl) (K.cl ((hxq _ (hS.pick [0])).ld 0 (by omega) 3 _ rfl) (K.cl ((hxq _ (hS.pick [0])).ld 0 (by omega) 4 _ rfl) (K.cl ((hxq _ (hS.pick [0])).ld 0 (by omega) 5 _ rfl) K.cl0)))))))) ?_
          refine K.RW.qs [.int .i64 (((alk Lk) : Nat) : Int)] (by kernel_rfl) ?_
          refine K.RW.l rfl (K.OW.gcall hS [] [0, 1, 2] [.agg #[.int .i64 ((Lk.getD 0 act0).k), .int .i64 ((Lk.getD 0 act0).th), .int .i64 ((Lk.getD 0 act0).ln), .int .i64 ((Lk.getD 0 act0).ok), .int .u32 ((Lk.getD 0 act0).key), .int .u32 ((Lk.getD 0 act0).val)], .int .i64 (((alk Lk) : Nat) : Int)] (words_ok _ (Lk.getD 0 act0) (alk Lk) (haf 0) hr0 (by omega)) ?_)
          clear hS; rintro _ _ w ⟨r_17, g_18, k_19, rfl, rfl, o_20⟩ hS
          replace hS : K.Sat w0 [g_18, gx, g1, fr] w := hS
          refine K.RW.l rfl (K.OW.gcall hS [0] [1, 2, 3] [.slice r_17 ((wordsA (Lk.getD 0 act0) (alk Lk)).length) k_19, .string (K.sb [32])] (join_ok _ _ _ 32 (wordsA (Lk.getD 0 act0) (alk Lk)) _ (fun w h => K.RowE.len (K.Own.rowE [] (h.ownr 0 rfl o_20) rfl (fun _ => rfl)) rfl) (by omega) (by have := o_20.le; first | omega | (simp; done) | (simp; omega)) (by omega) (by omega)) ?_)
          clear hS; rintro _ _ w ⟨rfl, rfl⟩ hS
          replace hS : K.Sat w0 [g_18, gx, g1, fr] w := hS
          refine K.RW.q rfl rfl (K.QR.sAdd (xs := (K.jn 32 (wordsA (Lk.getD 0 act0) (alk Lk)))) (ys := [10]) rfl rfl rfl (by (try simp only [List.length_append, List.length_cons, List.length_nil] at *); omega)) ?_
          refine K.RW.l rfl (K.OW.gcall hS [2] [0, 1, 3] [.pointer (some ⟨r_4, 0, none⟩), .string (K.sb ((K.jn 32 (wordsA (Lk.getD 0 act0) (alk Lk))) ++ ([10] : List UInt8)))] (write_ok _ _ _ o ((K.jn 32 (wordsA (Lk.getD 0 act0) (alk Lk))) ++ ([10] : List UInt8)) x_13 (by simp) (by (simp only [List.length_append, List.length_cons, List.length_nil]; omega))) ?_)
          clear hS; rintro _ _ w ⟨rfl, g_21, rfl, h_22⟩ hS
          replace hS : K.Sat w0 [g_21, g_18, gx, fr] w := hS
          refine K.RW.nil ?_
          refine K.thn_normal ?_
          -- 9 :258
          refine K.KW.region ?_
          refine K.RW.qs [.slice (some ⟨b_15, of_16, none⟩) Lk.length c1, .int .i64 (((alk Lk) : Nat) : Int)] (by kernel_rfl) ?_
          obtain ⟨as_25, has_26⟩ : ∃ q, q = K.shift (some ⟨b_15, of_16, none⟩) c1 (alk Lk) 6 := ⟨_, rfl⟩
          have x_23 : ∀ w, K.Sat w0 [gx] w → K.RowE w as_25 (Lk.drop (alk Lk)).length 6 (fun i => cAct ((Lk.drop (alk Lk)).getD i act0)) := fun w h => has_26 ▸ K.RowE.drop (c := cAct) (d := act0) (L := Lk) (cap := c1) (hxq w h) (alk Lk) (by first | omega | (simp; done) | (simp; omega)) ((by omega))
          have n_24 : (Lk.drop (alk Lk)).length = Lk.length - (alk Lk) := List.length_drop
          refine K.RW.q rfl rfl (K.QR.turn (v' := .slice as_25 ((Lk.drop (alk Lk)).length) (c1 - (alk Lk))) (K.QR.slLo (size := 6) (m := Lk.length) (k := ((Lk.drop (alk Lk)).length)) (alk Lk) rfl rfl rfl Tryd.underlying54 (by kernel_rfl) (by first | omega | (simp; done) | (simp; omega)) (by first | omega | (simp; done) | (simp; omega))) (by rw [has_26])) ?_
          refine K.RW.qs [.slice as_25 ((Lk.drop (alk Lk)).length) (c1 - (alk Lk))] (by kernel_rfl) ?_
          refine K.RW.nil ?_
          refine K.blk_normal ?_
          refine K.thn_normal ?_
          refine ⟨_, ?_, as_25, (Lk.drop (alk Lk)), c1 - alk Lk, (o ++ ((K.jn 32 (wordsA (Lk.getD 0 act0) (alk Lk))) ++ ([10] : List UInt8))), g_21, rfl, ⟨by rfl, by rfl, by rfl, by rfl, by rfl, trivial⟩, (by rw [List.length_drop]; omega), (by rw [List.length_drop]; omega), (x_23), (wr_next ho (by omega)), (wr_len hol (by omega) (by omega) (by omega) (by rw [List.length_append, List.length_singleton]; omega)), (allRt_drop hrt), (allAf_drop haf), h_22, hS.pick [0, 2, 3]⟩
          rw [List.length_drop]; omega
        ·  -- no
          refine K.RW.q rfl rfl (K.QR.nice (v := .bool (decide ((((Lk.length : Nat) : Int) : Int) > (0 : Int)))) (by kernel_rfl) (congrArg Value.bool (decide_eq_false h_14))) ?_
          refine K.RW.nil ?_
          refine K.thn_normal ?_
          refine K.KW.ifF rfl ?_
          refine K.KW.exit ?_
          refine K.thn_exit ?_
          refine K.thn_exit ?_
          refine K.blk_hit ?_
          refine K.thn_normal ?_
          refine K.KW.seq ?_
          refine K.KW.seq ?_
          -- 10 :260
          have e0 : Lk = [] := List.eq_nil_of_length_eq_zero (by omega)
          have hoL : o = wrM L := by rw [← ho, e0, wrM_nil, List.append_nil]
          refine K.KW.region ?_
          refine K.RW.l rfl (K.OW.gcall hS [0] [1, 2] [.pointer (some ⟨r_4, 0, none⟩)] (blength_ok _ _ _ o x_13) ?_)
          clear hS; rintro _ _ w ⟨rfl, rfl⟩ hS
          replace hS : K.Sat w0 [g1, gx, fr] w := hS
          by_cases h_27 : (((o.length : Nat) : Int) : Int) > (65536 : Int)
          ·  -- yes
            refine K.RW.q rfl rfl (K.QR.nice (v := .bool (decide ((((o.length : Nat) : Int) : Int) > (65536 : Int)))) (by kernel_rfl) (congrArg Value.bool (decide_eq_true h_27))) ?_
            refine K.RW.nil ?_
            refine K.thn_normal ?_
            refine K.KW.ifT rfl ?_
            refine K.KW.seq ?_
            -- 11 :261
            refine K.KW.region ?_
            refine K.RW.qs [.string (K.sb []), .int .i64 2] (by kernel_rfl) ?_
            refine K.RW.nil ?_
            refine K.thn_normal ?_
            refine K.KW.ret ?_
            refine K.thn_ret ?_
            refine ⟨.inr rfl, rfl, (.tuple #[.string (K.sb []), .int .i64 2]), K.res2 rfl rfl rfl, [gx], ?_, hS.pick [1, 2]⟩
            exact ⟨rfl, .inr (.inl ⟨hall, .inr (by rw [← hoL]; omega), rfl⟩)⟩
          ·  -- no
            refine K.RW.q rfl rfl (K.QR.nice (v := .bool (decide ((((o.length : Nat) : Int) : Int) > (65536 : Int)))) (by kernel_rfl) (congrArg Value.bool (decide_eq_false h_27))) ?_
            refine K.RW.nil ?_
            refine K.thn_normal ?_
            refine K.KW.ifF rfl ?_
            refine K.KW.skip ?_
            refine K.thn_normal ?_
            refine K.KW.seq ?_
            -- 12 :263
            refine K.KW.region ?_
            refine K.RW.l rfl (K.OW.gcall hS [0] [1, 2] [.pointer (some ⟨r_4, 0, none⟩)] (bstring_ok _ _ _ o x_13) ?_)
            clear hS; rintro _ _ w ⟨rfl, rfl⟩ hS
            replace hS : K.Sat w0 [gx, fr] w := hS
            refine K.RW.qs [.string (K.sb o), .int .i64 0] (by kernel_rfl) ?_
            refine K.RW.nil ?_
            refine K.thn_normal ?_
            refine K.KW.ret ?_
            refine ⟨.inr rfl, rfl, (.tuple #[.string (K.sb o), .int .i64 0]), K.res2 rfl rfl rfl, [gx], ?_, hS.pick [0, 1]⟩
            exact ⟨rfl, .inr (.inr ⟨hall, by omega, by rw [← hoL]; omega, by rw [← hoL]⟩)⟩
end Go.Proofs.YtnehocjmgnhhhaaDoor
