import Derived.Test.YtbfafebfkdbglaaGreatFl12a
import Derived.Test.YtbfafebfkdbglaaGreatFlist
/- The statement ArenaAlone. -/
namespace Go.Proofs.YtbfafebfkdbglaaGreat
open Go.RowKit
set_option linter.unusedVariables false
attribute [local irreducible] K.KW K.RW K.DW K.OW K.QR K.KC
def rangeF (i m : Nat) : List Int := (List.range (m - i)).map fun (k : Nat) => ((i + k : Nat) : Int)
theorem rangeF_cons {i m : Nat} (h : i < m) : rangeF i m = (i : Int) :: rangeF (i + 1) m := by
 unfold rangeF
 rw [show m - i = (m - (i + 1)) + 1 by omega, List.range_succ_eq_map, List.map_cons, List.map_map]
 congr 1
 apply List.map_congr_left
 intro k _
 show ((i + (k + 1) : Nat) : Int) = ((i + 1 + k : Nat) : Int)
 omega
theorem rangeF_nil (m : Nat) : rangeF m m = [] := by unfold rangeF; rw [Nat.sub_self]; rfl
theorem rangeF_zero (m : Nat) : rangeF 0 m = rangeI m := by
 unfold rangeF rangeI
 apply List.map_congr_left
 intro k _
 show ((0 + k : Nat) : Int) = (k : Int)
 omega
def tkn (N i : Nat) : List Bool := (List.range N).map fun (s : Nat) => decide (s < i)
theorem tkn_len (N i : Nat) : (tkn N i).length = N := by simp [tkn]
theorem tkn_zero (N : Nat) : List.replicate N false = tkn N 0 := by
 apply List.ext_getElem (by simp [tkn])
 intro k h1 h2
 simp [tkn]
theorem tkn_get {N i : Nat} (h : i < N) : (tkn N i).getD i false = false := by simp [tkn, h]
theorem tkn_set {N i : Nat} (h : i < N) : (tkn N i).set i true = tkn N (i + 1) := by
 apply List.ext_getElem (by simp [tkn])
 intro k h1 h2
 have hk : k < N := by simpa [tkn] using h1
 rw [List.getElem_set]
 by_cases e : i = k
 ·subst e; rw [if_pos rfl]; simp [tkn]
 ·rw [if_neg e]
  simp [tkn]
  omega
theorem logz_rows {c : Cfg} (hc : cfgOk c) {k m : Nat} (hm : (m : Int) ≤ c.sl) : ∀ j, j ≤ m → LogZ c (groundM (lns c).toNat c.th.toNat k (rowsTo c (rangeI m) j))
 | 0, _ => ⟨fresh_ok hc, fun t q h1 h2 h3 h4 => by
   have h := (log_at hc ⟨h1, h2⟩ ⟨h3, h4⟩).2
   show (MemM.of (DevM.fresh (List.replicate ((lns c).toNat * 8) 0) (lns c).toNat c.th.toNat) k).peek (lns c).toNat _ = some 0
   unfold MemM.peek
   rw [if_pos h.1]
   show (if _ < _ then some ((List.replicate ((lns c).toNat * 8) (0 : Int)).getD _ 0) else none) = some 0
   rw [if_pos h.2]
   simp [List.getD_eq_getElem?_getD, List.getElem?_replicate]
   split <;> rfl⟩
 | j + 1, hj => by
  have hth : 1 ≤ c.th := by unfold cfgOk at hc; omega
  rw [rowsTo_succ, ground_snoc]
  refine (logz_rows hc hm j (by omega)).pass hc ?_
  show atS c (rangeI m) j < 0
  unfold atS
  split
  ·omega
  ·rw [rangeI_get (by omega), aft_at (by omega)]; omega
theorem zero_rows {c : Cfg} (hc : cfgOk c) {k m : Nat} (hm : (m : Int) ≤ c.sl) {i : Int} (hi : 0 ≤ i ∧ i < (((lns c).toNat : Nat) : Int) * 8) : ∀ j, j ≤ m → (groundM (lns c).toNat c.th.toNat k (rowsTo c (rangeI m) j)).peek (lns c).toNat i = some 0
 | 0, _ => by
   show (MemM.of (DevM.fresh (List.replicate ((lns c).toNat * 8) 0) (lns c).toNat c.th.toNat) k).peek (lns c).toNat _ = some 0
   unfold MemM.peek
   rw [if_pos hi.1]
   show (if _ < _ then some ((List.replicate ((lns c).toNat * 8) (0 : Int)).getD _ 0) else none) = some 0
   rw [if_pos hi.2]
   simp [List.getD_eq_getElem?_getD, List.getElem?_replicate]
   split <;> rfl
 | j + 1, hj => by
  have hth : 1 ≤ c.th := by unfold cfgOk at hc; omega
  have hneg : atS c (rangeI m) j < 0 := by
   unfold atS
   split
   ·omega
   ·rw [rangeI_get (by omega), aft_at (by omega)]; omega
  rw [rowsTo_succ, ground_snoc]
  show (MemM.accS _ _ _ (atS c (rangeI m) j) _).1.peek _ i = some 0
  rw [accS_peek hneg, if_neg (by omega)]
  exact zero_rows hc hm hi j (by omega)
theorem AFree.start {c : Cfg} {m k : Nat} (hc : cfgOk c) (hm : (m : Int) = c.sl) (F : FGround c (lns c).toNat m (groundM (lns c).toNat c.th.toNat k (rowsTo c (rangeI m) m))) : AFree c (rangeF 0 m) (groundM (lns c).toNat c.th.toNat k (rowsTo c (rangeI m) m)) := by
 have hr : ∀ s ∈ rangeI m, 0 ≤ s ∧ s < c.sl := fun s hs => by have := rangeI_mem.1 hs; omega
 rw [rangeF_zero]
 exact ⟨F.good, F.pl, logz_rows hc (by omega) m (Nat.le_refl _), F.ch, hr, rangeI_nodup m, fun s hs => zero_rows hc (by omega) ⟨(gen_at hc (hr s hs)).2.1, (gen_at hc (hr s hs)).2.2.1⟩ m (Nat.le_refl _)⟩
theorem tkSlotV_ok (w0 : World) (p b : Nat) (S : TkS) (g : K.Cs) (h : TkEl p b S g) (s : Int) (hd : S.part = 0) (hs : S.slot = s) : K.GC Tryz.prog w0 34 #[.pointer (some ⟨p, 0, none⟩)] [g] (fun v post => v = .int .i64 s ∧ post = [g]) := by
 have := tkSlotE_ok w0 p b S g h
 have hd2 : S.done = true := decide_eq_true hd
 rwa [if_pos hd2, hs] at this
set_option maxHeartbeats 1000000 in
set_option maxRecDepth 100000 in
theorem r12int_ok (w0 : World) (c : Cfg) (hc : cfgOk c) (t : Int) :
  K.GC Tryz.prog w0 40 #[.agg #[.int .i64 c.th, .int .i64 c.sl, .int .i64 c.lo, .int .i64 c.bu], .int .i64 7, .int .i64 t] [] (fun v post => v = .int .i64 (intS c t) ∧ post = []) := by
 refine K.GC.mk (n := 12) Tryz.func40 rfl rfl [.agg #[.int .i64 c.th, .int .i64 c.sl, .int .i64 c.lo, .int .i64 c.bu], .int .i64 7, .int .i64 t] rfl rfl ?_
 intro fr w hS
 replace hS : K.Sat w0 [fr] w := hS
 refine K.s (K.g ?_)
 refine K.l (K.OW.gnew 23 [.int .i64 c.th, .int .i64 c.sl, .int .i64 c.lo, .int .i64 c.bu] hS ?_)
 clear hS; intro w r_1 g_2 hg_3 hS
 refine K.q [.int .i64 0] (K.z (K.t (K.s (K.g ?_))))
 refine K.a (K.QR.ldN [.int .i64 c.th, .int .i64 c.sl, .int .i64 c.lo, .int .i64 c.bu] rfl rfl (by kernel_rfl) (by kernel_rfl) (K.cells (K.cl ((hS.blk 0 rfl hg_3).cell rfl) (K.cl ((hS.blk 0 rfl hg_3).cell rfl) (K.cl ((hS.blk 0 rfl hg_3).cell rfl) (K.cl ((hS.blk 0 rfl hg_3).cell rfl) K.cl0)))))) ?_
 refine K.q [.int .i64 7, .int .i64 t] ?_
 refine K.a (K.QR.bd [(0, .int .i64 7), (1, .int .i64 t)] [.int .i64 7, .int .i64 t, .int .i64 0] rfl rfl (by kernel_rfl)) ?_
 refine K.l (K.OW.gcall hS [] [0, 1] [.agg #[.int .i64 c.th, .int .i64 c.sl, .int .i64 c.lo, .int .i64 c.bu], .agg #[.int .i64 7, .int .i64 t, .int .i64 0]] (at_ok _ c (⟨7, t, 0⟩ : Nm) (by assumption)) ?_)
 clear hS; rintro _ _ w ⟨rfl, rfl⟩ hS
 replace hS : K.Sat w0 [g_2, fr] w := hS
 refine K.q [.int .i64 (atT (lasting c) (passing c) (⟨7, t, 0⟩ : Nm))] (K.z (K.t (K.r ?_)))
 refine ⟨.inr rfl, rfl, (.int .i64 (atT (lasting c) (passing c) (⟨7, t, 0⟩ : Nm))), K.res1 rfl rfl, [], ?_, hS.pick [1]⟩
 exact ⟨congrArg (Value.int .i64) (at_int hc t), rfl⟩
set_option maxHeartbeats 1000000 in
set_option maxRecDepth 100000 in
theorem l12alone_ok (w0 : World) (c : Cfg) (tt : Int) (htt : isInt tt) :
  K.GC Tryz.prog w0 5 #[.agg #[.int .i64 c.th, .int .i64 c.sl, .int .i64 c.lo, .int .i64 c.bu], .int .i64 tt] [] (fun v post => v = .bool true) := by
 refine K.GC.mk (n := 147) Tryz.func5 rfl rfl [.agg #[.int .i64 c.th, .int .i64 c.sl, .int .i64 c.lo, .int .i64 c.bu], .int .i64 tt] rfl rfl ?_
 intro fr w hS
 replace hS : K.Sat w0 [fr] w := hS
 refine K.s (K.g ?_)
 refine K.l (K.OW.gnew 23 [.int .i64 c.th, .int .i64 c.sl, .int .i64 c.lo, .int .i64 c.bu] hS ?_)
 clear hS; intro w r_1 g_2 hg_3 hS
 refine K.q [.bool false] (K.z (K.t (K.s (K.s (K.g ?_)))))
 refine K.a (K.QR.ldN [.int .i64 c.th, .int .i64 c.sl, .int .i64 c.lo, .int .i64 c.bu] rfl rfl (by kernel_rfl) (by kernel_rfl) (K.cells (K.cl ((hS.blk 0 rfl hg_3).cell rfl) (K.cl ((hS.blk 0 rfl hg_3).cell rfl) (K.cl ((hS.blk 0 rfl hg_3).cell rfl) (K.cl ((hS.blk 0 rfl hg_3).cell rfl) K.cl0)))))) ?_
 refine K.l (K.OW.gcall hS [] [0, 1] [.agg #[.int .i64 c.th, .int .i64 c.sl, .int .i64 c.lo, .int .i64 c.bu]] (few09_ok _ c) ?_)
 clear hS; rintro _ _ w ⟨rfl, (⟨rfl, h_4⟩ | ⟨rfl, h_5⟩)⟩ hS
 ·
  replace hS : K.Sat w0 [g_2, fr] w := hS
  have hc_6 := h_4.1
  obtain ⟨hf_7, hf_8, hf_9, hf_10, hf_11⟩ := (show _ from (by have h := h_4; unfold fewC cfgOk at h; exact h))
  refine K.q [.bool false, .bool false, .int .i64 tt] ?_
  by_cases h_12 : (tt : Int) < (0 : Int)
  ·
   refine K.y ((tt : Int) < (0 : Int)) h_12 ?_
   refine K.q [.bool true, .bool true] (K.n_ (K.n_ (K.n_ (K.n_ (K.q [.bool true] (K.z (K.t (K.h (K.s (K.g ?_))))))))))
   refine K.l (K.OW.gcall hS [] [0, 1] [] (awake12_ok _) ?_)
   clear hS; rintro _ _ w ⟨rfl, rfl⟩ hS
   replace hS : K.Sat w0 [g_2, fr] w := hS
   refine K.q [.bool true] (K.z (K.t (K.r (K.u ?_))))
   refine ⟨.inr rfl, rfl, (.bool true), K.res1 rfl rfl, [], ?_, hS.pick [1]⟩
   exact rfl
  ·
   refine K.x ((tt : Int) < (0 : Int)) h_12 ?_
   refine K.q [.bool false, .bool false, .int .i64 tt, .pointer (some ⟨r_1, 0, none⟩)] ?_
   refine K.d (.int .i64 c.th) ((hS.blk 0 rfl hg_3).cell rfl) ?_
   by_cases h_13 : (tt : Int) ≥ (c.th : Int)
   ·
    refine K.y ((tt : Int) ≥ (c.th : Int)) h_13 ?_
    refine K.q [.bool true] (K.z (K.t (K.h (K.s (K.g ?_)))))
    refine K.l (K.OW.gcall hS [] [0, 1] [] (awake12_ok _) ?_)
    clear hS; rintro _ _ w ⟨rfl, rfl⟩ hS
    replace hS : K.Sat w0 [g_2, fr] w := hS
    refine K.q [.bool true] (K.z (K.t (K.r (K.u ?_))))
    refine ⟨.inr rfl, rfl, (.bool true), K.res1 rfl rfl, [], ?_, hS.pick [1]⟩
    exact rfl
   ·
    refine K.x ((tt : Int) ≥ (c.th : Int)) h_13 ?_
    refine K.q [.bool false] (K.z (K.t (K.f (K.k (K.t (K.s (K.g ?_)))))))
    refine K.a (K.QR.ldN [.int .i64 c.th, .int .i64 c.sl, .int .i64 c.lo, .int .i64 c.bu] rfl rfl (by kernel_rfl) (by kernel_rfl) (K.cells (K.cl ((hS.blk 0 rfl hg_3).cell rfl) (K.cl ((hS.blk 0 rfl hg_3).cell rfl) (K.cl ((hS.blk 0 rfl hg_3).cell rfl) (K.cl ((hS.blk 0 rfl hg_3).cell rfl) K.cl0)))))) ?_
    refine K.l (K.OW.gcall hS [] [0, 1] [.agg #[.int .i64 c.th, .int .i64 c.sl, .int .i64 c.lo, .int .i64 c.bu]] (all12_ok _ c (by first | assumption | (unfold cfgOk; decide)) (by first | omega | decide)) ?_)
    clear hS; rintro _ _ w ⟨r_14, c_15, l_16, rfl, rfl, o_17⟩ hS
    replace hS : K.Sat w0 [l_16, g_2, fr] w := hS
    refine K.l (K.OW.gcall hS [0] [1, 2] [.agg #[.int .i64 c.th, .int .i64 c.sl, .int .i64 c.lo, .int .i64 c.bu, .slice r_14 ((rowsTo c (rangeI c.sl.toNat) c.sl.toNat).length) c_15]] (layS_ok _ c _ _ (rowsTo c (rangeI c.sl.toNat) c.sl.toNat) (fun j hj => (rows_good (by assumption) _ _ j hj).1) (⟨by assumption, by rw [rowsTo_len]; omega⟩) _ (fun w h => K.RowE.len (K.Own.rowE pu0 (h.ownr 0 rfl o_17) rfl (fun _ => rfl)) rfl)) ?_)
    clear hS; rintro _ _ w ⟨b_18, p_19, q_20, r_21, u_22, _, _, gl_23, l_24, m_25, rfl, rfl, hl_26, x_27, y_28, rfl, rfl, hf_29, hp_30⟩ hS
    replace hS : K.Sat w0 [l_16, gl_23, l_24, m_25, g_2, fr] w := hS
    have hcf : cfgOk c := by assumption
    have hF := fground (c := c) (n := ((lns c).toNat)) (t := (c.th.toNat)) (k := (2 + c.th + c.sl).toNat) (m := c.sl.toNat) (by omega) (by omega) (by omega) (by omega) hcf
    have hA0 := AFree.start hcf (by omega) hF
    generalize groundM ((lns c).toNat) (c.th.toNat) (2 + c.th + c.sl).toNat (rowsTo c (rangeI c.sl.toNat) c.sl.toNat) = M0 at x_27 hA0
    have hM0 := hA0.good
    have htk : 0 ≤ tt ∧ tt < c.th := by omega
    refine K.q [.tuple #[.pointer (some ⟨b_18, 0, none⟩), .pointer (some ⟨p_19, 0, none⟩), .pointer (some ⟨r_21, 0, none⟩), .bool true], .pointer (some ⟨b_18, 0, none⟩), .pointer (some ⟨p_19, 0, none⟩), .pointer (some ⟨r_21, 0, none⟩), .bool true, .pointer (some ⟨b_18, 0, none⟩), .pointer (some ⟨p_19, 0, none⟩), .pointer (some ⟨r_21, 0, none⟩), .bool true] (K.z (K.t (K.s (K.g (K.q [.pointer (some ⟨r_1, 1, none⟩)] ?_)))))
    refine K.a (K.QR.turn (v := .int .i64 c.sl) (K.QR.ld1 (v := .int .i64 c.sl) rfl rfl (by kernel_rfl) ((hS.blk 4 rfl hg_3).cell rfl)) (congrArg (Value.int .i64) (show (c.sl : Int) = (((c.sl.toNat : Nat) : Int) : Int) from by omega))) ?_
    refine K.l (K.OW.gmk (P := Tryz.prog) (m := c.sl.toNat) (cc := cBool) (z := .bool false) (size := 1) (bytes := 1) (false : Bool) hS ?_ Tryz.underlying26 (by kernel_rfl) rfl rfl (by unfold maxLen; omega) (by omega))
    clear hS; intro w r_31 l_32 o_33 hS
    refine K.q [.slice (some ⟨r_31, 0, none⟩) c.sl.toNat c.sl.toNat] (K.z (K.t (K.s (K.s (K.g (K.q [.int .i64 0] (K.z (K.t ?_))))))))
    refine K.KW.block ?_
    refine K.KW.loop (fun m_ F_ w_ => ∃ (i : Nat) (M : MemM) (tb : K.Cs) (l1 : K.Cs), m_ = c.sl.toNat - i ∧ K.Sl F_ [(0, .agg #[.int .i64 c.th, .int .i64 c.sl, .int .i64 c.lo, .int .i64 c.bu]), (1, .int .i64 tt), (2, .pointer (some ⟨r_1, 0, none⟩)), (5, .pointer (some ⟨b_18, 0, none⟩)), (6, .pointer (some ⟨p_19, 0, none⟩)), (8, .bool true), (9, .slice (some ⟨r_31, 0, none⟩) c.sl.toNat c.sl.toNat), (10, .int .i64 ((i : Nat) : Int)), (147, undef)] ∧ i ≤ c.sl.toNat ∧ AFree c (rangeF i c.sl.toNat) M ∧ K.OwnG tb 4 1 (some ⟨r_31, 0, none⟩) c.sl.toNat c.sl.toNat (((tkn c.sl.toNat i)).flatMap cBool) ∧ MemAt l1 p_19 q_20 ((lns c).toNat) (c.th.toNat) M ∧ K.Sat w0 [tb, l_16, gl_23, l1, m_25, g_2, fr] w_) ((fun (i : Nat) (M : MemM) => c.sl.toNat - i) 0 M0) ?_ ?_
    ·
     exact ⟨0, M0, l_32, l_24, rfl, ⟨by rfl, by rfl, by rfl, by rfl, by rfl, by rfl, by rfl, by rfl, by rfl, trivial⟩, (by omega), (hA0), (by rw [← tkn_zero]; exact o_33), x_27, hS.pick [0, 1, 2, 3, 4, 5, 6]⟩
    ·
     clear hS
     intro m_34 F_35 w hI
     obtain ⟨i, M, tb, l1, rfl, sl_36, p_37, hA, x_38, x_39, hS⟩ := hI
     rw [← K.Sl.puts sl_36]; clear sl_36
     refine K.s (K.s (K.g (K.q [.int .i64 ((i : Nat) : Int), .pointer (some ⟨r_1, 1, none⟩)] ?_)))
     refine K.d (.int .i64 c.sl) ((hS.blk 5 rfl hg_3).cell rfl) ?_
     by_cases h_40 : (((i : Nat) : Int) : Int) < (c.sl : Int)
     ·
      refine K.y ((((i : Nat) : Int) : Int) < (c.sl : Int)) h_40 ?_
      refine K.z (K.t (K.h (K.k (K.t (K.s ?_)))))
      refine K.KW.block ?_
      refine K.s (K.g (K.q [.pointer (some ⟨b_18, 0, none⟩), .int .i64 tt] ?_))
      refine K.l (K.OW.gcall hS [] [0, 1, 2, 3, 4, 5, 6] [.pointer (some ⟨b_18, 0, none⟩), .int .i64 tt] (newtkE_ok _ b_18 tt (by omega)) ?_)
      clear hS; rintro _ _ w ⟨p_41, g_42, rfl, rfl, h_43⟩ hS
      replace hS : K.Sat w0 [g_42, tb, l_16, gl_23, l1, m_25, g_2, fr] w := hS
      refine K.q [.pointer (some ⟨p_41, 0, none⟩)] (K.z (K.t (K.s (K.s (K.g (K.q [.int .i64 0] (K.z (K.t ?_))))))))
      refine K.KW.block ?_
      refine K.KW.loop (fun m_ F_ w_ => ∃ (k : Nat) (g1k : K.Cs) (l1k : K.Cs), m_ = 12 - k ∧ K.Sl F_ [(0, .agg #[.int .i64 c.th, .int .i64 c.sl, .int .i64 c.lo, .int .i64 c.bu]), (1, .int .i64 tt), (2, .pointer (some ⟨r_1, 0, none⟩)), (5, .pointer (some ⟨b_18, 0, none⟩)), (6, .pointer (some ⟨p_19, 0, none⟩)), (8, .bool true), (9, .slice (some ⟨r_31, 0, none⟩) c.sl.toNat c.sl.toNat), (10, .int .i64 ((i : Nat) : Int)), (11, .pointer (some ⟨p_41, 0, none⟩)), (12, .int .i64 ((k : Nat) : Int)), (147, undef)] ∧ k ≤ 12 ∧ TkEl p_41 b_18 ((tkIt c (lns c).toNat c.th.toNat (tkInit tt) M k).1) g1k ∧ MemAt l1k p_19 q_20 ((lns c).toNat) (c.th.toNat) (tkIt c (lns c).toNat c.th.toNat (tkInit tt) M k).2 ∧ K.Sat w0 [g1k, tb, l_16, gl_23, l1k, m_25, g_2, fr] w_) ((fun (k : Nat) => 12 - k) 0) ?_ ?_
      ·
       exact ⟨0, g_42, l1, rfl, ⟨by rfl, by rfl, by rfl, by rfl, by rfl, by rfl, by rfl, by rfl, by rfl, by rfl, by rfl, trivial⟩, (by omega), h_43, x_39, hS.pick [0, 1, 2, 3, 4, 5, 6, 7]⟩
      ·
       clear hS
       intro m_44 F_45 w hI
       obtain ⟨k, g1k, l1k, rfl, sl_46, p_47, x_48, x_49, hS⟩ := hI
       rw [← K.Sl.puts sl_46]; clear sl_46
       obtain ⟨hSik, hMik⟩ := tkIt_good (c := c) (n := (lns c).toNat) (nt := c.th.toNat) (S := tkInit tt) (M := M) hcf (TkG.init hcf (by omega)) hA.good k
       refine K.s (K.s (K.g (K.q [.int .i64 ((k : Nat) : Int)] ?_)))
       by_cases h_50 : (((k : Nat) : Int) : Int) < (12 : Int)
       ·
        refine K.y ((((k : Nat) : Int) : Int) < (12 : Int)) h_50 ?_
        refine K.z (K.t (K.h (K.k (K.t (K.s ?_)))))
        refine K.KW.block ?_
        refine K.g (K.q [.pointer (some ⟨p_41, 0, none⟩), .pointer (some ⟨p_19, 0, none⟩)] ?_)
        refine K.l (K.OW.gcall hS [0, 3, 4] [1, 2, 5, 6, 7] [.pointer (some ⟨p_41, 0, none⟩), .pointer (some ⟨p_19, 0, none⟩)] (tkStep_ok _ _ _ _ _ _ _ c (by first | assumption | (unfold cfgOk; decide)) ((tkIt c (lns c).toNat c.th.toNat (tkInit tt) M k).1) ((tkIt c (lns c).toNat c.th.toNat (tkInit tt) M k).2) _ _ _ x_48 hl_26 x_49 (by assumption) (TkG.good (by assumption))) ?_)
        clear hS; rintro _ _ w ⟨g_51, l_52, rfl, rfl, h_53, x_54⟩ hS
        replace hS : K.Sat w0 [g_51, gl_23, l_52, tb, l_16, m_25, g_2, fr] w := hS
        obtain ⟨hS_55, hM_56⟩ := (TkG.step (by first | assumption | (unfold cfgOk; decide)) (by assumption) (by assumption) : TkG c (tkStep c ((lns c).toNat) (c.th.toNat) ((tkIt c (lns c).toNat c.th.toNat (tkInit tt) M k).1) ((tkIt c (lns c).toNat c.th.toNat (tkInit tt) M k).2)).1 ∧ (tkStep c ((lns c).toNat) (c.th.toNat) ((tkIt c (lns c).toNat c.th.toNat (tkInit tt) M k).1) ((tkIt c (lns c).toNat c.th.toNat (tkInit tt) M k).2)).2.good)
        refine K.z ?_
        refine K.blk_normal ?_
        refine K.t (K.g (K.q [.int .i64 ((k : Nat) : Int)] ?_))
        refine K.a (K.QR.n64 ((((k : Nat) : Int) : Int) + (1 : Int)) ((k + 1 : Nat) : Int) (by kernel_rfl) (by omega)) ?_
        refine K.q [.int .i64 ((k + 1 : Nat) : Int)] (K.z (K.t ?_))
        refine ⟨_, ?_, k + 1, g_51, l_52, rfl, ⟨by rfl, by rfl, by rfl, by rfl, by rfl, by rfl, by rfl, by rfl, by rfl, by rfl, by rfl, trivial⟩, (by omega), h_53, x_54, hS.pick [0, 3, 4, 1, 2, 5, 6, 7]⟩
        omega
       ·
        refine K.x ((((k : Nat) : Int) : Int) < (12 : Int)) h_50 ?_
        refine K.z (K.t (K.f ?_))
        refine K.KW.exit ?_
        refine K.thn_exit ?_
        refine K.thn_exit ?_
        refine K.blk_hit ?_
        refine K.t (K.s ?_)
        obtain rfl : k = 12 := by omega
        obtain ⟨hd, hs1, hA2, hg2, hk2⟩ := alone_take hcf htk (rangeF_cons (i := i) (m := c.sl.toNat) (by omega) ▸ hA)
        obtain ⟨hi1, hi2, hi3, hi4⟩ := int_at hcf htk
        have htnl := tkn_len c.sl.toNat i
        have hkl : (tkIt c (lns c).toNat c.th.toNat (tkInit tt) M 12).2.dev.kept.length = _ := hA2.z.ok.1
        refine K.g (K.q [.pointer (some ⟨p_41, 0, none⟩)] ?_)
        refine K.l (K.OW.gcall hS [0] [1, 2, 3, 4, 5, 6, 7] [.pointer (some ⟨p_41, 0, none⟩)] (tkSlotV_ok _ _ _ ((tkIt c (lns c).toNat c.th.toNat (tkInit tt) M 12).1) _ x_48 ((i : Nat) : Int) hd hs1) ?_)
        clear hS; rintro _ _ w ⟨rfl, rfl⟩ hS
        replace hS : K.Sat w0 [g1k, tb, l_16, gl_23, l1k, m_25, g_2, fr] w := hS
        refine K.q [.int .i64 ((i : Nat) : Int)] (K.z (K.t (K.s (K.s (K.g (K.q [.pointer (some ⟨p_41, 0, none⟩)] ?_))))))
        refine K.l (K.OW.gcall hS [0] [1, 2, 3, 4, 5, 6, 7] [.pointer (some ⟨p_41, 0, none⟩)] (tkDoneE_ok _ _ _ ((tkIt c (lns c).toNat c.th.toNat (tkInit tt) M 12).1) _ x_48) ?_)
        clear hS; rintro _ _ w ⟨rfl, rfl⟩ hS
        replace hS : K.Sat w0 [g1k, tb, l_16, gl_23, l1k, m_25, g_2, fr] w := hS
        cases hb_57 : ((tkIt c (lns c).toNat c.th.toNat (tkInit tt) M 12).1).done
        ·cases (hb_57.symm.trans (show ((tkIt c (lns c).toNat c.th.toNat (tkInit tt) M 12).1).done = true from decide_eq_true hd))
        ·
         refine K.q [.bool false, .bool false, .int .i64 ((i : Nat) : Int)] ?_
         refine K.x ((((i : Nat) : Int) : Int) < (0 : Int)) (by omega) ?_
         refine K.q [.bool false, .bool false, .int .i64 ((i : Nat) : Int), .pointer (some ⟨r_1, 1, none⟩)] ?_
         refine K.d (.int .i64 c.sl) ((hS.blk 6 rfl hg_3).cell rfl) ?_
         refine K.x ((((i : Nat) : Int) : Int) ≥ (c.sl : Int)) (by omega) ?_
         refine K.q [.bool false, .bool false, .slice (some ⟨r_31, 0, none⟩) c.sl.toNat c.sl.toNat, .int .i64 ((i : Nat) : Int)] ?_
         refine K.a (K.QR.ix i 1 rfl rfl rfl Tryz.underlying26 (by kernel_rfl) (by omega) (by first | (simp; done) | omega | (simp; omega))) ?_
         refine K.d (.bool ((tkn c.sl.toNat i).getD i false)) (K.Own.atS (c := cBool) (d := false) (fun _ => rfl) (hS.ownr 1 rfl x_38) (tkn_len c.sl.toNat i) i (by omega)) ?_
         cases hb_58 : (tkn c.sl.toNat i).getD i false
         ·
          refine K.q [.bool false] (K.z (K.t (K.f (K.k (K.t (K.s (K.g (K.q [.slice (some ⟨r_31, 0, none⟩) c.sl.toNat c.sl.toNat, .int .i64 ((i : Nat) : Int)] ?_))))))))
          refine K.a (K.QR.ix i 1 rfl rfl rfl Tryz.underlying26 (by kernel_rfl) (by omega) (by first | (simp; done) | omega | (simp; omega))) ?_
          refine K.l (K.OW.grst 1 i [.bool true] ((((tkn c.sl.toNat i).set i true)).flatMap cBool) hS x_38 ?_ (by show _ + 1 ≤ _; omega) (K.set1 (c := cBool) (tkn c.sl.toNat i) i true (by have := (tkn_len c.sl.toNat i); omega)))
          clear hS; intro w l_59 o_60 hS
          have ln_61 : (((tkn c.sl.toNat i).set i true)).length = _ := (List.length_set).trans (tkn_len c.sl.toNat i)
          replace hS : K.Sat w0 [g1k, l_59, l_16, gl_23, l1k, m_25, g_2, fr] w := hS
          refine K.z (K.t (K.s (K.g (K.q [.pointer (some ⟨p_19, 0, none⟩), .pointer (some ⟨b_18, 0, none⟩), .int .i64 ((i : Nat) : Int)] ?_))))
          refine K.l (K.OW.kcall hS [.pointer (some ⟨b_18, 0, none⟩), .int .i64 ((i : Nat) : Int)] (lGen _ c ((i : Nat) : Int) _ (by assumption) (hS.blk 3 rfl hl_26)) ?_)
          rintro _ w ⟨rfl, c_62⟩
          replace hS := hS.no c_62
          have hi_63 : isInt (genS c ((i : Nat) : Int)) := gen_int (by assumption) _
          refine K.l (K.OW.gcall hS [4] [0, 1, 2, 3, 5, 6, 7] [.pointer (some ⟨p_19, 0, none⟩), .int .i64 (genS c ((i : Nat) : Int))] (mPeekD_ok _ _ _ _ _ _ _ x_49 (genS c ((i : Nat) : Int)) (by first | omega | assumption | exact int_int (by assumption) _ | exact gen_int (by assumption) _ | exact aft_int (by assumption) _ | exact ann_int (by assumption) _ (by omega))) ?_)
          clear hS; rintro _ _ w ⟨rfl, rfl⟩ hS
          replace hS : K.Sat w0 [l1k, g1k, l_59, l_16, gl_23, m_25, g_2, fr] w := hS
          have hw_64 : isW ((((tkIt c (lns c).toNat c.th.toNat (tkInit tt) M 12).2).peek ((lns c).toNat) (genS c ((i : Nat) : Int))).getD 0) := peek0_W (by assumption)
          refine K.q [.tuple #[.int .u64 ((((tkIt c (lns c).toNat c.th.toNat (tkInit tt) M 12).2).peek ((lns c).toNat) (genS c ((i : Nat) : Int))).getD 0), .bool ((((tkIt c (lns c).toNat c.th.toNat (tkInit tt) M 12).2).peek ((lns c).toNat) (genS c ((i : Nat) : Int))).isSome)], .int .u64 ((((tkIt c (lns c).toNat c.th.toNat (tkInit tt) M 12).2).peek ((lns c).toNat) (genS c ((i : Nat) : Int))).getD 0), .bool ((((tkIt c (lns c).toNat c.th.toNat (tkInit tt) M 12).2).peek ((lns c).toNat) (genS c ((i : Nat) : Int))).isSome), .int .u64 ((((tkIt c (lns c).toNat c.th.toNat (tkInit tt) M 12).2).peek ((lns c).toNat) (genS c ((i : Nat) : Int))).getD 0), .bool ((((tkIt c (lns c).toNat c.th.toNat (tkInit tt) M 12).2).peek ((lns c).toNat) (genS c ((i : Nat) : Int))).isSome)] (K.z (K.t (K.s (K.g (K.q [.pointer (some ⟨p_19, 0, none⟩)] ?_)))))
          refine K.l (K.OW.gcall hS [0] [1, 2, 3, 4, 5, 6, 7] [.pointer (some ⟨p_19, 0, none⟩)] (mDevice_ok _ _ _ _ _ _ _ x_49 ) ?_)
          clear hS; rintro _ _ w ⟨rfl, rfl⟩ hS
          replace hS : K.Sat w0 [l1k, g1k, l_59, l_16, gl_23, m_25, g_2, fr] w := hS
          refine K.l (K.OW.gcall hS [0] [1, 2, 3, 4, 5, 6, 7] [.pointer (some ⟨q_20, 0, none⟩)] (mdKept_ok _ _ _ _ _ _ _ x_49) ?_)
          clear hS; rintro _ _ w ⟨r_65, cc_66, l_67, rfl, rfl, o_68⟩ hS
          replace hS : K.Sat w0 [l1k, l_67, g1k, l_59, l_16, gl_23, m_25, g_2, fr] w := hS
          refine K.q [.slice r_65 (((tkIt c (lns c).toNat c.th.toNat (tkInit tt) M 12).2).dev.kept.length) cc_66] (K.z (K.t (K.s (K.g ?_))))
          refine K.a (K.QR.ldN [.int .i64 c.th, .int .i64 c.sl, .int .i64 c.lo, .int .i64 c.bu] rfl rfl (by kernel_rfl) (by kernel_rfl) (K.cells (K.cl ((hS.blk 7 rfl hg_3).cell rfl) (K.cl ((hS.blk 7 rfl hg_3).cell rfl) (K.cl ((hS.blk 7 rfl hg_3).cell rfl) (K.cl ((hS.blk 7 rfl hg_3).cell rfl) K.cl0)))))) ?_
          refine K.q [.int .i64 tt] ?_
          refine K.l (K.OW.gcall hS [] [0, 1, 2, 3, 4, 5, 6, 7, 8] [.agg #[.int .i64 c.th, .int .i64 c.sl, .int .i64 c.lo, .int .i64 c.bu], .int .i64 7, .int .i64 tt] (r12int_ok _ c (by first | assumption | (unfold cfgOk; decide)) tt) ?_)
          clear hS; rintro _ _ w ⟨rfl, rfl⟩ hS
          replace hS : K.Sat w0 [l1k, l_67, g1k, l_59, l_16, gl_23, m_25, g_2, fr] w := hS
          refine K.q [.int .i64 (intS c tt)] (K.z (K.t (K.s ?_)))
          obtain ⟨b_69, rfl⟩ := o_68.some_ (by have := o_68.le; omega)
          refine K.g (K.q [.int .u64 ((((tkIt c (lns c).toNat c.th.toNat (tkInit tt) M 12).2).peek ((lns c).toNat) (genS c ((i : Nat) : Int))).getD 0)] ?_)
          refine K.xn (((((tkIt c (lns c).toNat c.th.toNat (tkInit tt) M 12).2).peek ((lns c).toNat) (genS c ((i : Nat) : Int))).getD 0) : Int) (1 : Int) (by rw [hg2]; rfl) ?_
          refine K.q [.bool false, .int .i64 (intS c tt), .slice (some ⟨b_69, 0, none⟩) (((tkIt c (lns c).toNat c.th.toNat (tkInit tt) M 12).2).dev.kept.length) cc_66] ?_
          refine K.a (K.QR.len (P := Tryz.prog) rfl rfl Tryz.underlying78) ?_
          refine K.x (((intS c tt) : Int) ≥ (((((tkIt c (lns c).toNat c.th.toNat (tkInit tt) M 12).2).dev.kept.length : Nat) : Int) : Int)) (by omega) ?_
          refine K.q [.bool false, .bool false, .slice (some ⟨b_69, 0, none⟩) (((tkIt c (lns c).toNat c.th.toNat (tkInit tt) M 12).2).dev.kept.length) cc_66, .int .i64 (intS c tt)] ?_
          refine K.a (K.QR.ix ((intS c tt).toNat) 1 rfl rfl rfl Tryz.underlying78 (by kernel_rfl) (by omega) (by first | (simp; done) | omega | (simp; omega))) ?_
          refine K.d (.int .u64 ((((tkIt c (lns c).toNat c.th.toNat (tkInit tt) M 12).2).dev.kept).getD ((intS c tt).toNat) 0)) (K.Own.atS (c := cU64) (d := 0) (fun _ => rfl) (hS.ownr 1 rfl o_68) rfl ((intS c tt).toNat) (by omega)) ?_
          refine K.q [.int .i64 ((i : Nat) : Int)] ?_
          refine K.a (K.QR.nice (v := .int .u64 (IntKind.u64.wrap ((i : Nat) : Int))) (by kernel_rfl) (congrArg (Value.int .u64) (IntWalk.u64_in _ (by omega)))) ?_
          refine K.a (K.QR.nu64 ((((i : Nat) : Int) : Int) + (1 : Int)) ((i + 1 : Nat) : Int) (by kernel_rfl) (by omega)) ?_
          refine K.xn ((((tkIt c (lns c).toNat c.th.toNat (tkInit tt) M 12).2).dev.kept).getD ((intS c tt).toNat) 0 : Int) (((i + 1 : Nat) : Int) : Int) (hk2) ?_
          refine K.q [.bool false] (K.z (K.t (K.f (K.k ?_))))
          refine K.blk_normal ?_
          refine K.t (K.g (K.q [.int .i64 ((i : Nat) : Int)] ?_))
          refine K.a (K.QR.n64 ((((i : Nat) : Int) : Int) + (1 : Int)) ((i + 1 : Nat) : Int) (by kernel_rfl) (by omega)) ?_
          refine K.q [.int .i64 ((i + 1 : Nat) : Int)] (K.z (K.t ?_))
          refine ⟨_, ?_, i + 1, ((tkIt c (lns c).toNat c.th.toNat (tkInit tt) M 12).2), l_59, l1k, rfl, ⟨by rfl, by rfl, by rfl, by rfl, by rfl, by rfl, by rfl, by rfl, by rfl, trivial⟩, (by omega), (hA2), (by rw [← tkn_set (by omega)]; exact o_60), x_49, hS.pick [3, 4, 5, 0, 6, 7, 8]⟩
          omega
         ·cases (hb_58.symm.trans (show (tkn c.sl.toNat i).getD i false = false from tkn_get (N := c.sl.toNat) (i := i) (by omega)))
     ·
      refine K.x ((((i : Nat) : Int) : Int) < (c.sl : Int)) h_40 ?_
      refine K.z (K.t (K.f ?_))
      refine K.KW.exit ?_
      refine K.thn_exit ?_
      refine K.thn_exit ?_
      refine K.blk_hit ?_
      refine K.t (K.s (K.g (K.q [.pointer (some ⟨b_18, 0, none⟩), .int .i64 tt] ?_)))
      refine K.l (K.OW.gcall hS [] [0, 1, 2, 3, 4, 5, 6] [.pointer (some ⟨b_18, 0, none⟩), .int .i64 tt] (newtkE_ok _ b_18 tt (by omega)) ?_)
      clear hS; rintro _ _ w ⟨p_71, g_72, rfl, rfl, h_73⟩ hS
      replace hS : K.Sat w0 [g_72, tb, l_16, gl_23, l1, m_25, g_2, fr] w := hS
      refine K.q [.pointer (some ⟨p_71, 0, none⟩)] (K.z (K.t (K.s (K.s (K.g (K.q [.int .i64 0] (K.z (K.t ?_))))))))
      refine K.KW.block ?_
      obtain rfl : i = c.sl.toNat := by omega
      refine K.KW.loop (fun m_ F_ w_ => ∃ (q : Nat) (g1q : K.Cs) (l1q : K.Cs), m_ = 60 - q ∧ K.Sl F_ [(0, .agg #[.int .i64 c.th, .int .i64 c.sl, .int .i64 c.lo, .int .i64 c.bu]), (1, .int .i64 tt), (6, .pointer (some ⟨p_19, 0, none⟩)), (8, .bool true), (18, .pointer (some ⟨p_71, 0, none⟩)), (19, .int .i64 ((q : Nat) : Int)), (147, undef)] ∧ q ≤ 60 ∧ TkEl p_71 b_18 ((tkIt c (lns c).toNat c.th.toNat (tkInit tt) M q).1) g1q ∧ MemAt l1q p_19 q_20 ((lns c).toNat) (c.th.toNat) (tkIt c (lns c).toNat c.th.toNat (tkInit tt) M q).2 ∧ K.Sat w0 [g1q, tb, l_16, gl_23, l1q, m_25, g_2, fr] w_) ((fun (q : Nat) => 60 - q) 0) ?_ ?_
      ·
       exact ⟨0, g_72, l1, rfl, ⟨by rfl, by rfl, by rfl, by rfl, by rfl, by rfl, by rfl, trivial⟩, (by omega), h_73, x_39, hS.pick [0, 1, 2, 3, 4, 5, 6, 7]⟩
      ·
       clear hS
       intro m_74 F_75 w hI
       obtain ⟨q, g1q, l1q, rfl, sl_76, p_77, x_78, x_79, hS⟩ := hI
       rw [← K.Sl.puts sl_76]; clear sl_76
       obtain ⟨hSiq, hMiq⟩ := tkIt_good (c := c) (n := (lns c).toNat) (nt := c.th.toNat) (S := tkInit tt) (M := M) hcf (TkG.init hcf (by omega)) hA.good q
       refine K.s (K.s (K.g (K.q [.int .i64 ((q : Nat) : Int)] ?_)))
       by_cases h_80 : (((q : Nat) : Int) : Int) < (60 : Int)
       ·
        refine K.y ((((q : Nat) : Int) : Int) < (60 : Int)) h_80 ?_
        refine K.z (K.t (K.h (K.k (K.t (K.s ?_)))))
        refine K.KW.block ?_
        refine K.g (K.q [.pointer (some ⟨p_71, 0, none⟩), .pointer (some ⟨p_19, 0, none⟩)] ?_)
        refine K.l (K.OW.gcall hS [0, 3, 4] [1, 2, 5, 6, 7] [.pointer (some ⟨p_71, 0, none⟩), .pointer (some ⟨p_19, 0, none⟩)] (tkStep_ok _ _ _ _ _ _ _ c (by first | assumption | (unfold cfgOk; decide)) ((tkIt c (lns c).toNat c.th.toNat (tkInit tt) M q).1) ((tkIt c (lns c).toNat c.th.toNat (tkInit tt) M q).2) _ _ _ x_78 hl_26 x_79 (by assumption) (TkG.good (by assumption))) ?_)
        clear hS; rintro _ _ w ⟨g_81, l_82, rfl, rfl, h_83, x_84⟩ hS
        replace hS : K.Sat w0 [g_81, gl_23, l_82, tb, l_16, m_25, g_2, fr] w := hS
        obtain ⟨hS_85, hM_86⟩ := (TkG.step (by first | assumption | (unfold cfgOk; decide)) (by assumption) (by assumption) : TkG c (tkStep c ((lns c).toNat) (c.th.toNat) ((tkIt c (lns c).toNat c.th.toNat (tkInit tt) M q).1) ((tkIt c (lns c).toNat c.th.toNat (tkInit tt) M q).2)).1 ∧ (tkStep c ((lns c).toNat) (c.th.toNat) ((tkIt c (lns c).toNat c.th.toNat (tkInit tt) M q).1) ((tkIt c (lns c).toNat c.th.toNat (tkInit tt) M q).2)).2.good)
        refine K.z ?_
        refine K.blk_normal ?_
        refine K.t (K.g (K.q [.int .i64 ((q : Nat) : Int)] ?_))
        refine K.a (K.QR.n64 ((((q : Nat) : Int) : Int) + (1 : Int)) ((q + 1 : Nat) : Int) (by kernel_rfl) (by omega)) ?_
        refine K.q [.int .i64 ((q + 1 : Nat) : Int)] (K.z (K.t ?_))
        refine ⟨_, ?_, q + 1, g_81, l_82, rfl, ⟨by rfl, by rfl, by rfl, by rfl, by rfl, by rfl, by rfl, trivial⟩, (by omega), h_83, x_84, hS.pick [0, 3, 4, 1, 2, 5, 6, 7]⟩
        omega
       ·
        refine K.x ((((q : Nat) : Int) : Int) < (60 : Int)) h_80 ?_
        refine K.z (K.t (K.f ?_))
        refine K.KW.exit ?_
        refine K.thn_exit ?_
        refine K.thn_exit ?_
        refine K.blk_hit ?_
        refine K.t (K.s ?_)
        obtain rfl : q = 60 := by omega
        obtain ⟨hd, hs1, he1⟩ := alone_none12 hcf (by omega) htk (rangeF_nil c.sl.toNat ▸ hA)
        refine K.g ?_
        refine K.l (K.OW.gcall hS [] [0, 1, 2, 3, 4, 5, 6, 7] [] (awake12_ok _) ?_)
        clear hS; rintro _ _ w ⟨rfl, rfl⟩ hS
        replace hS : K.Sat w0 [g1q, tb, l_16, gl_23, l1q, m_25, g_2, fr] w := hS
        refine K.q [.bool true, .bool true, .bool true, .bool true, .pointer (some ⟨p_71, 0, none⟩)] ?_
        refine K.l (K.OW.gcall hS [0] [1, 2, 3, 4, 5, 6, 7] [.pointer (some ⟨p_71, 0, none⟩)] (tkDoneE_ok _ _ _ ((tkIt c (lns c).toNat c.th.toNat (tkInit tt) M 60).1) _ x_78) ?_)
        clear hS; rintro _ _ w ⟨rfl, rfl⟩ hS
        replace hS : K.Sat w0 [g1q, tb, l_16, gl_23, l1q, m_25, g_2, fr] w := hS
        cases hb_87 : ((tkIt c (lns c).toNat c.th.toNat (tkInit tt) M 60).1).done
        ·cases (hb_87.symm.trans (show ((tkIt c (lns c).toNat c.th.toNat (tkInit tt) M 60).1).done = true from decide_eq_true hd))
        ·
         refine K.q [.bool true, .bool true, .pointer (some ⟨p_71, 0, none⟩)] ?_
         refine K.l (K.OW.gcall hS [0] [1, 2, 3, 4, 5, 6, 7] [.pointer (some ⟨p_71, 0, none⟩)] (tkSlotV_ok _ _ _ ((tkIt c (lns c).toNat c.th.toNat (tkInit tt) M 60).1) _ x_78 ((-1) : Int) hd hs1) ?_)
         clear hS; rintro _ _ w ⟨rfl, rfl⟩ hS
         replace hS : K.Sat w0 [g1q, tb, l_16, gl_23, l1q, m_25, g_2, fr] w := hS
         refine K.q [.bool true, .bool true, .bool true, .pointer (some ⟨p_71, 0, none⟩)] ?_
         refine K.l (K.OW.gcall hS [0] [1, 2, 3, 4, 5, 6, 7] [.pointer (some ⟨p_71, 0, none⟩)] (tkEmptyE_ok _ _ _ ((tkIt c (lns c).toNat c.th.toNat (tkInit tt) M 60).1) _ x_78) ?_)
         clear hS; rintro _ _ w ⟨rfl, rfl⟩ hS
         replace hS : K.Sat w0 [g1q, tb, l_16, gl_23, l1q, m_25, g_2, fr] w := hS
         refine K.q [.pointer (some ⟨p_19, 0, none⟩)] ?_
         refine K.l (K.OW.gcall hS [4] [0, 1, 2, 3, 5, 6, 7] [.pointer (some ⟨p_19, 0, none⟩)] (mClock_ok _ _ _ _ _ _ _ x_79 ) ?_)
         clear hS; rintro _ _ w ⟨rfl, rfl⟩ hS
         replace hS : K.Sat w0 [l1q, g1q, tb, l_16, gl_23, m_25, g_2, fr] w := hS
         refine K.ye (((tkIt c (lns c).toNat c.th.toNat (tkInit tt) M 60).1).empty : Int) (((tkIt c (lns c).toNat c.th.toNat (tkInit tt) M 60).2).clock : Int) (he1) ?_
         refine K.q [.bool true, .bool true] (K.z (K.t (K.r ?_)))
         refine ⟨.inr rfl, rfl, (.bool true), K.res1 rfl rfl, [], ?_, hS.pick [7]⟩
         exact rfl
 ·
  replace hS : K.Sat w0 [g_2, fr] w := hS
  refine K.q [.bool true, .bool true] (K.n_ (K.n_ (K.q [.bool true, .bool true] (K.n_ (K.n_ (K.n_ (K.n_ (K.q [.bool true] (K.z (K.t (K.h (K.s (K.g ?_)))))))))))))
  refine K.l (K.OW.gcall hS [] [0, 1] [] (awake12_ok _) ?_)
  clear hS; rintro _ _ w ⟨rfl, rfl⟩ hS
  replace hS : K.Sat w0 [g_2, fr] w := hS
  refine K.q [.bool true] (K.z (K.t (K.r (K.u ?_))))
  refine ⟨.inr rfl, rfl, (.bool true), K.res1 rfl rfl, [], ?_, hS.pick [1]⟩
  exact rfl
end Go.Proofs.YtbfafebfkdbglaaGreat
