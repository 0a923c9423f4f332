import Derived.Test.YtbfafebfkdbglaaGreatFlay2
import Derived.Test.YtbfafebfkdbglaaGreatFpm4
import Derived.Test.YtbfafebfkdbglaaGreatFlist
/- A ground: the layout in groups, the place of a name, small configs. -/
namespace Go.Proofs.YtbfafebfkdbglaaGreat
open Go.RowKit
set_option linter.unusedVariables false
attribute [local irreducible] K.KW K.RW K.DW K.OW K.QR K.KC
/-- the first place of an element -/
def firstT (l : List Nm) (x : Nm) : Nat := (l.takeWhile fun y => decide (y ≠ x)).length
/-- the document's place of a name -/
def atT (L P : List Nm) (x : Nm) : Int := if firstT L x < L.length then (firstT L x : Int) else if firstT P x < P.length then -1 - (firstT P x : Int) else (L.length : Int)
theorem first_at : ∀ {l : List Nm} {x : Nm} {i : Nat}, (∀ j, j < i → ¬ l.getD j nm0 = x) → i < l.length → l.getD i nm0 = x → firstT l x = i
 | [], x, i, _, h, _ => by simp at h
 | y :: l, x, 0, _, _, h => by
  have h : y = x := by simpa using h
  subst h
  unfold firstT; rw [List.takeWhile_cons, if_neg (by simp)]; rfl
 | y :: l, x, i + 1, hn, hi, h => by
  have h0 : ¬ y = x := hn 0 (by omega)
  have ih := first_at (l := l) (x := x) (i := i) (fun j hj => hn (j + 1) (by omega)) (by simpa using hi) (by simpa using h)
  unfold firstT at ih ⊢
  rw [List.takeWhile_cons, if_pos (by simpa using h0), List.length_cons, ih]
theorem first_no : ∀ {l : List Nm} {x : Nm} {i : Nat}, (∀ j, j < i → ¬ l.getD j nm0 = x) → l.length ≤ i → firstT l x = l.length
 | [], x, _, _, _ => rfl
 | y :: l, x, i, hn, hi => by
  have h0 : ¬ y = x := hn 0 (by simp at hi; omega)
  have ih := first_no (l := l) (x := x) (i := i - 1) (fun j hj => by have := hn (j + 1) (by omega); simpa using this) (by simp at hi; omega)
  unfold firstT at ih ⊢
  rw [List.takeWhile_cons, if_pos (by simpa using h0), List.length_cons, List.length_cons, ih]
theorem nm_eq {x y : Nm} (h : x.k = y.k ∧ x.a = y.a ∧ x.b = y.b) : x = y := by cases x; cases y; simp_all
theorem nm_ne {x y : Nm} (h : ¬ (x.k = y.k ∧ x.a = y.a ∧ x.b = y.b)) : ¬ x = y := fun e => h (by rw [e]; exact ⟨rfl, rfl, rfl⟩)
theorem at_L {L P : List Nm} {x : Nm} {i : Nat} (h : ∀ j, j < i → ¬ L.getD j nm0 = x) (hi : i < L.length) (e : L.getD i nm0 = x) : (i : Int) = atT L P x := by
 have := first_at h hi e
 unfold atT; rw [this, if_pos hi]
theorem at_P {L P : List Nm} {x : Nm} {i k : Nat} (h0 : ∀ j, j < k → ¬ L.getD j nm0 = x) (hk : L.length ≤ k) (h : ∀ j, j < i → ¬ P.getD j nm0 = x) (hi : i < P.length) (e : P.getD i nm0 = x) : -1 - (i : Int) = atT L P x := by
 have h1 := first_no h0 hk
 have := first_at h hi e
 unfold atT; rw [h1, if_neg (by omega), this, if_pos hi]
theorem at_no {L P : List Nm} {x : Nm} {i k : Nat} (h0 : ∀ j, j < k → ¬ L.getD j nm0 = x) (hk : L.length ≤ k) (h : ∀ j, j < i → ¬ P.getD j nm0 = x) (hi : P.length ≤ i) : (L.length : Int) = atT L P x := by
 have h1 := first_no h0 hk
 have h2 := first_no h hi
 unfold atT; rw [h1, if_neg (by omega), h2, if_neg (by omega)]
theorem none_succ {L : List Nm} {x : Nm} {i : Nat} (h : ∀ j, j < i → ¬ L.getD j nm0 = x) (e : ¬ L.getD i nm0 = x) : ∀ j, j < i + 1 → ¬ L.getD j nm0 = x := fun j hj => by
 rcases Nat.lt_or_ge j i with h' | h'
 ·exact h j h'
 ·rw [show j = i by omega]; exact e
structure PutM where
 at_ : Int
 w : Int
def cPut (p : PutM) : List Value := [K.iv p.at_, .int .u64 p.w]
def pu0 : PutM := ⟨0, 0⟩
def fewC (c : Cfg) : Prop := cfgOk c ∧ c.th ≤ 6 ∧ c.sl ≤ 30 ∧ c.lo ≤ 8 ∧ c.bu ≤ 8
set_option maxHeartbeats 1000000 in
set_option maxRecDepth 100000 in
theorem at_ok (w0 : World) (c : Cfg) (x : Nm) (hc : cfgOk c) :
  K.GC Tryz.prog w0 57 #[.agg #[K.iv c.th, K.iv c.sl, K.iv c.lo, K.iv c.bu], .agg #[K.iv x.k, K.iv x.a, K.iv x.b]] [] (fun v post => v = K.iv (atT (lasting c) (passing c) x) ∧ post = []) := by
 have hbd := lay_bd hc
 have hcc := hc
 unfold cfgOk at hcc
 refine K.GC.mk (n := 42) Tryz.func57 rfl rfl [.agg #[K.iv c.th, K.iv c.sl, K.iv c.lo, K.iv c.bu], .agg #[K.iv x.k, K.iv x.a, K.iv x.b]] rfl rfl ?_
 intro fr w hS
 replace hS : K.Sat w0 [fr] w := hS
 refine K.s (K.g ?_)
 refine K.l (K.OW.gnew 23 [K.iv c.th, K.iv c.sl, K.iv c.lo, K.iv c.bu] hS ?_)
 clear hS; intro w r_1 g_2 hg_3 hS
 refine K.l (K.OW.gnew 115 [K.iv x.k, K.iv x.a, K.iv x.b] hS ?_)
 clear hS; intro w r_4 g_5 hg_6 hS
 refine K.q [K.iv 0] (K.z (K.t (K.s (K.g ?_))))
 refine K.a (K.QR.ldN [K.iv c.th, K.iv c.sl, K.iv c.lo, K.iv c.bu] rfl rfl (by kernel_rfl) (by kernel_rfl) (K.cells (K.cl ((hS.blk 1 rfl hg_3).cell rfl) (K.cl ((hS.blk 1 rfl hg_3).cell rfl) (K.cl ((hS.blk 1 rfl hg_3).cell rfl) (K.cl ((hS.blk 1 rfl hg_3).cell rfl) K.cl0)))))) ?_
 refine K.l (K.OW.kcall hS [.agg #[K.iv c.th, K.iv c.sl, K.iv c.lo, K.iv c.bu]] (lasting_ok c _ (by assumption)) ?_)
 rintro _ w ⟨r_7, m_8, cc_9, rfl, c_10, o_11, l_12⟩
 obtain ⟨l_13, o_14, hS⟩ := hS.rnew c_10 o_11 (by omega)
 have hq_15 := lasting_len (c := c) (by assumption)
 refine K.q [.slice r_7 m_8 cc_9] (K.z (K.t (K.s (K.s (K.g (K.q [K.iv 0] (K.z (K.t ?_))))))))
 refine K.KW.block ?_
 refine K.KW.loop (fun m_ F_ w_ => ∃ (k : Nat), m_ = (lasting c).length - k ∧ K.Sl F_ [(0, .agg #[K.iv c.th, K.iv c.sl, K.iv c.lo, K.iv c.bu]), (1, .agg #[K.iv x.k, K.iv x.a, K.iv x.b]), (2, K.pa r_1), (3, K.pa r_4), (5, .slice r_7 m_8 cc_9), (6, K.iv ((k : Nat) : Int)), (42, undef)] ∧ k ≤ (lasting c).length ∧ ((∀ q, q < k → ¬ (lasting c).getD q nm0 = x)) ∧ K.Sat w0 [l_13, g_5, g_2, fr] w_) ((fun (k : Nat) => (lasting c).length - k) 0) ?_ ?_
 ·
  exact ⟨0, rfl, ⟨by rfl, by rfl, by rfl, by rfl, by rfl, by rfl, by rfl, trivial⟩, (by omega), (fun q h => absurd h (by omega)), hS.pick [0, 1, 2, 3]⟩
 ·
  clear hS
  intro m_16 F_17 w hI
  obtain ⟨k, rfl, sl_18, p_19, hn1, hS⟩ := hI
  rw [← K.Sl.puts sl_18]; clear sl_18
  refine K.s (K.s (K.g (K.q [K.iv ((k : Nat) : Int), .slice r_7 m_8 cc_9] ?_)))
  refine K.a (K.QR.len (P := Tryz.prog) rfl rfl Tryz.underlying123) ?_
  by_cases h_20 : (((k : Nat) : Int) : Int) < (((m_8 : Nat) : Int) : Int)
  ·
   refine K.y ((((k : Nat) : Int) : Int) < (((m_8 : Nat) : Int) : Int)) h_20 ?_
   refine K.z (K.t (K.h (K.k (K.t (K.s ?_)))))
   refine K.KW.block ?_
   refine K.s ?_
   obtain ⟨b_21, rfl⟩ := o_14.some_ (by have := o_14.le; omega)
   refine K.KW.gdrawn [0] hS (by kernel_rfl) ?_
   clear hS; intro w hS
   refine K.p 0 rfl (.slice (some ⟨b_21, 0, none⟩) m_8 cc_9) (hS.pick [0]) ?_
   refine K.p 1 rfl (K.iv ((k : Nat) : Int)) (hS.pick [0]) ?_
   refine K.m 2 rfl (fun w hS => K.QR.ix (0 + k * 3) 3 rfl rfl rfl Tryz.underlying123 (by kernel_rfl) (by omega) (by first | (simp; done) | omega | (simp; omega))) (hS.pick [0]) ?_
   refine K.m 3 rfl (fun w hS => K.QR.ldN [K.iv (((lasting c).getD k nm0).k), K.iv (((lasting c).getD k nm0).a), K.iv (((lasting c).getD k nm0).b)] rfl rfl (by kernel_rfl) (by kernel_rfl) (K.cells (K.cl ((K.Own.rowE nm0 (hS.ownr 0 rfl o_14) l_12 (fun _ => rfl)).ld k (by omega) 0 _ rfl) (K.cl ((K.Own.rowE nm0 (hS.ownr 0 rfl o_14) l_12 (fun _ => rfl)).ld k (by omega) 1 _ rfl) (K.cl ((K.Own.rowE nm0 (hS.ownr 0 rfl o_14) l_12 (fun _ => rfl)).ld k (by omega) 2 _ rfl) K.cl0))))) (hS.pick [0]) ?_
   refine K.c 4 rfl (K.QR.ldN [K.iv x.k, K.iv x.a, K.iv x.b] rfl rfl (by kernel_rfl) (by kernel_rfl) (K.cells (K.cl ((hS.blk 1 rfl hg_6).cell rfl) (K.cl ((hS.blk 1 rfl hg_6).cell rfl) (K.cl ((hS.blk 1 rfl hg_6).cell rfl) K.cl0))))) (hS.pick [0]) ?_
   by_cases h_23 : (((lasting c).getD k nm0).k : Int) = x.k ∧ (((lasting c).getD k nm0).a : Int) = x.a ∧ (((lasting c).getD k nm0).b : Int) = x.b
   ·
    refine K.c 5 rfl (K.QR.eqS (by kernel_rfl) rfl rfl rfl (eqNm_t h_23)) (hS.pick [0]) ?_
    refine K.DW.done (by kernel_rfl) ?_
    refine K.t (K.h (K.s (K.g (K.q [K.iv ((k : Nat) : Int), K.iv ((k : Nat) : Int)] (K.z (K.t (K.r ?_)))))))
    refine K.blk_ret ?_
    refine K.u (K.u ?_)
    refine K.blk_ret ?_
    refine K.u ?_
    refine ⟨.inr rfl, rfl, (K.iv ((k : Nat) : Int)), K.res1 rfl rfl, [], ?_, hS.pick [3]⟩
    exact ⟨congrArg (Value.int .i64) (at_L hn1 (by omega) (nm_eq (by assumption))), rfl⟩
   ·
    refine K.c 5 rfl (K.QR.eqS (by kernel_rfl) rfl rfl rfl (eqNm_f h_23)) (hS.pick [0]) ?_
    refine K.DW.done (by kernel_rfl) ?_
    refine K.t (K.f (K.k ?_))
    refine K.blk_normal ?_
    refine K.t (K.g (K.q [K.iv ((k : Nat) : Int)] ?_))
    refine K.a (K.QR.n64 ((((k : Nat) : Int) : Int) + (1 : Int)) ((k + 1 : Nat) : Int) (by kernel_rfl) (by omega)) ?_
    refine K.q [K.iv ((k + 1 : Nat) : Int)] (K.z (K.t ?_))
    refine ⟨_, ?_, k + 1, rfl, ⟨by rfl, by rfl, by rfl, by rfl, by rfl, by rfl, by rfl, trivial⟩, (by omega), (none_succ hn1 (nm_ne (by assumption))), hS.pick [0, 1, 2, 3]⟩
    omega
  ·
   refine K.x ((((k : Nat) : Int) : Int) < (((m_8 : Nat) : Int) : Int)) h_20 ?_
   refine K.z (K.t (K.f ?_))
   refine K.KW.exit ?_
   refine K.thn_exit ?_
   refine K.thn_exit ?_
   refine K.blk_hit ?_
   refine K.t (K.s (K.g ?_))
   refine K.a (K.QR.ldN [K.iv c.th, K.iv c.sl, K.iv c.lo, K.iv c.bu] rfl rfl (by kernel_rfl) (by kernel_rfl) (K.cells (K.cl ((hS.blk 2 rfl hg_3).cell rfl) (K.cl ((hS.blk 2 rfl hg_3).cell rfl) (K.cl ((hS.blk 2 rfl hg_3).cell rfl) (K.cl ((hS.blk 2 rfl hg_3).cell rfl) K.cl0)))))) ?_
   refine K.l (K.OW.kcall hS [.agg #[K.iv c.th, K.iv c.sl, K.iv c.lo, K.iv c.bu]] (passing_ok c _ (by assumption)) ?_)
   rintro _ w ⟨r_24, m_25, cc_26, rfl, c_27, o_28, l_29⟩
   obtain ⟨l_30, o_31, hS⟩ := hS.rnew c_27 o_28 (by omega)
   have hq_32 := passing_len (c := c) (by assumption)
   refine K.q [.slice r_24 m_25 cc_26] (K.z (K.t (K.s (K.s (K.g (K.q [K.iv 0] (K.z (K.t ?_))))))))
   refine K.KW.block ?_
   refine K.KW.loop (fun m_ F_ w_ => ∃ (m : Nat), m_ = (passing c).length - m ∧ K.Sl F_ [(0, .agg #[K.iv c.th, K.iv c.sl, K.iv c.lo, K.iv c.bu]), (1, .agg #[K.iv x.k, K.iv x.a, K.iv x.b]), (3, K.pa r_4), (5, .slice r_7 m_8 cc_9), (7, .slice r_24 m_25 cc_26), (8, K.iv ((m : Nat) : Int)), (42, undef)] ∧ m ≤ (passing c).length ∧ ((∀ q, q < m → ¬ (passing c).getD q nm0 = x)) ∧ K.Sat w0 [l_30, l_13, g_5, g_2, fr] w_) ((fun (m : Nat) => (passing c).length - m) 0) ?_ ?_
   ·
    exact ⟨0, rfl, ⟨by rfl, by rfl, by rfl, by rfl, by rfl, by rfl, by rfl, trivial⟩, (by omega), (fun q h => absurd h (by omega)), hS.pick [0, 1, 2, 3, 4]⟩
   ·
    clear hS
    intro m_33 F_34 w hI
    obtain ⟨m, rfl, sl_35, p_36, hn2, hS⟩ := hI
    rw [← K.Sl.puts sl_35]; clear sl_35
    refine K.s (K.s (K.g (K.q [K.iv ((m : Nat) : Int), .slice r_24 m_25 cc_26] ?_)))
    refine K.a (K.QR.len (P := Tryz.prog) rfl rfl Tryz.underlying123) ?_
    by_cases h_37 : (((m : Nat) : Int) : Int) < (((m_25 : Nat) : Int) : Int)
    ·
     refine K.y ((((m : Nat) : Int) : Int) < (((m_25 : Nat) : Int) : Int)) h_37 ?_
     refine K.z (K.t (K.h (K.k (K.t (K.s ?_)))))
     refine K.KW.block ?_
     refine K.s ?_
     obtain ⟨b_38, rfl⟩ := o_31.some_ (by have := o_31.le; omega)
     refine K.KW.gdrawn [0] hS (by kernel_rfl) ?_
     clear hS; intro w hS
     refine K.p 0 rfl (.slice (some ⟨b_38, 0, none⟩) m_25 cc_26) (hS.pick [0]) ?_
     refine K.p 1 rfl (K.iv ((m : Nat) : Int)) (hS.pick [0]) ?_
     refine K.m 2 rfl (fun w hS => K.QR.ix (0 + m * 3) 3 rfl rfl rfl Tryz.underlying123 (by kernel_rfl) (by omega) (by first | (simp; done) | omega | (simp; omega))) (hS.pick [0]) ?_
     refine K.m 3 rfl (fun w hS => K.QR.ldN [K.iv (((passing c).getD m nm0).k), K.iv (((passing c).getD m nm0).a), K.iv (((passing c).getD m nm0).b)] rfl rfl (by kernel_rfl) (by kernel_rfl) (K.cells (K.cl ((K.Own.rowE nm0 (hS.ownr 0 rfl o_31) l_29 (fun _ => rfl)).ld m (by omega) 0 _ rfl) (K.cl ((K.Own.rowE nm0 (hS.ownr 0 rfl o_31) l_29 (fun _ => rfl)).ld m (by omega) 1 _ rfl) (K.cl ((K.Own.rowE nm0 (hS.ownr 0 rfl o_31) l_29 (fun _ => rfl)).ld m (by omega) 2 _ rfl) K.cl0))))) (hS.pick [0]) ?_
     refine K.c 4 rfl (K.QR.ldN [K.iv x.k, K.iv x.a, K.iv x.b] rfl rfl (by kernel_rfl) (by kernel_rfl) (K.cells (K.cl ((hS.blk 2 rfl hg_6).cell rfl) (K.cl ((hS.blk 2 rfl hg_6).cell rfl) (K.cl ((hS.blk 2 rfl hg_6).cell rfl) K.cl0))))) (hS.pick [0]) ?_
     by_cases h_40 : (((passing c).getD m nm0).k : Int) = x.k ∧ (((passing c).getD m nm0).a : Int) = x.a ∧ (((passing c).getD m nm0).b : Int) = x.b
     ·
      refine K.c 5 rfl (K.QR.eqS (by kernel_rfl) rfl rfl rfl (eqNm_t h_40)) (hS.pick [0]) ?_
      refine K.DW.done (by kernel_rfl) ?_
      refine K.t (K.h (K.s (K.g (K.q [K.iv ((m : Nat) : Int)] ?_))))
      refine K.a (K.QR.n64 (((-1) : Int) - (((m : Nat) : Int) : Int)) (((-1) : Int) - (((m : Nat) : Int) : Int)) (by kernel_rfl) (by omega)) ?_
      refine K.q [K.iv (((-1) : Int) - (((m : Nat) : Int) : Int))] (K.z (K.t (K.r ?_)))
      refine K.blk_ret ?_
      refine K.u (K.u ?_)
      refine K.blk_ret ?_
      refine K.u ?_
      refine ⟨.inr rfl, rfl, (K.iv (((-1) : Int) - (((m : Nat) : Int) : Int))), K.res1 rfl rfl, [], ?_, hS.pick [4]⟩
      exact ⟨congrArg (Value.int .i64) (at_P hn1 (by omega) hn2 (by omega) (nm_eq (by assumption))), rfl⟩
     ·
      refine K.c 5 rfl (K.QR.eqS (by kernel_rfl) rfl rfl rfl (eqNm_f h_40)) (hS.pick [0]) ?_
      refine K.DW.done (by kernel_rfl) ?_
      refine K.t (K.f (K.k ?_))
      refine K.blk_normal ?_
      refine K.t (K.g (K.q [K.iv ((m : Nat) : Int)] ?_))
      refine K.a (K.QR.n64 ((((m : Nat) : Int) : Int) + (1 : Int)) ((m + 1 : Nat) : Int) (by kernel_rfl) (by omega)) ?_
      refine K.q [K.iv ((m + 1 : Nat) : Int)] (K.z (K.t ?_))
      refine ⟨_, ?_, m + 1, rfl, ⟨by rfl, by rfl, by rfl, by rfl, by rfl, by rfl, by rfl, trivial⟩, (by omega), (none_succ hn2 (nm_ne (by assumption))), hS.pick [0, 1, 2, 3, 4]⟩
      omega
    ·
     refine K.x ((((m : Nat) : Int) : Int) < (((m_25 : Nat) : Int) : Int)) h_37 ?_
     refine K.z (K.t (K.f ?_))
     refine K.KW.exit ?_
     refine K.thn_exit ?_
     refine K.thn_exit ?_
     refine K.blk_hit ?_
     refine K.t (K.s (K.g (K.q [.slice r_7 m_8 cc_9] ?_)))
     refine K.a (K.QR.len (P := Tryz.prog) rfl rfl Tryz.underlying123) ?_
     refine K.q [K.iv ((m_8 : Nat) : Int)] (K.z (K.t (K.r ?_)))
     refine ⟨.inr rfl, rfl, (K.iv ((m_8 : Nat) : Int)), K.res1 rfl rfl, [], ?_, hS.pick [4]⟩
     exact ⟨congrArg (Value.int .i64) (by have := at_no (L := lasting c) (P := passing c) hn1 (by omega) hn2 (by omega); omega), rfl⟩
set_option maxHeartbeats 1000000 in
set_option maxRecDepth 100000 in
theorem few09_ok (w0 : World) (c : Cfg) :
  K.GC Tryz.prog w0 9 #[.agg #[K.iv c.th, K.iv c.sl, K.iv c.lo, K.iv c.bu]] [] (fun v post => post = [] ∧ ((v = .bool true ∧ fewC c) ∨ (v = .bool false ∧ ¬ fewC c))) := by
 refine K.GC.mk (n := 25) Tryz.func9 rfl rfl [.agg #[K.iv c.th, K.iv c.sl, K.iv c.lo, K.iv c.bu]] rfl rfl ?_
 intro fr w hS
 replace hS : K.Sat w0 [fr] w := hS
 refine K.s (K.g ?_)
 refine K.l (K.OW.gnew 23 [K.iv c.th, K.iv c.sl, K.iv c.lo, K.iv c.bu] hS ?_)
 clear hS; intro w r_1 g_2 hg_3 hS
 refine K.q [.bool false] (K.z (K.t (K.s (K.g ?_))))
 refine K.a (K.QR.ldN [K.iv c.th, K.iv c.sl, K.iv c.lo, K.iv c.bu] rfl rfl (by kernel_rfl) (by kernel_rfl) (K.cells (K.cl ((hS.blk 0 rfl hg_3).cell rfl) (K.cl ((hS.blk 0 rfl hg_3).cell rfl) (K.cl ((hS.blk 0 rfl hg_3).cell rfl) (K.cl ((hS.blk 0 rfl hg_3).cell rfl) K.cl0)))))) ?_
 refine K.l (K.OW.kcall hS [.agg #[K.iv c.th, K.iv c.sl, K.iv c.lo, K.iv c.bu]] (rright05_ok c _) ?_)
 rintro _ w ⟨rfl, c_4⟩
 replace hS := hS.no c_4
 cases hb_5 : (decide (cfgOk c))
 ·
  refine K.q [.bool false] (K.n_ (K.n_ (K.n_ (K.q [.bool false, .bool false] (K.n_ (K.n_ (K.n_ (K.q [.bool false, .bool false] (K.n_ (K.n_ (K.n_ (K.q [.bool false, .bool false] (K.n_ (K.n_ ?_))))))))))))))
  refine K.n_ (K.q [.bool false, .bool false] (K.z (K.t (K.r ?_))))
  have hq := of_decide_eq_false hb_5
  refine ⟨.inr rfl, rfl, (.bool false), K.res1 rfl rfl, [], ?_, hS.pick [1]⟩
  exact ⟨rfl, .inr ⟨rfl, fun h => hq h.1⟩⟩
 ·
  refine K.q [.bool true, K.pa r_1] ?_
  refine K.d (K.iv c.th) ((hS.blk 0 rfl hg_3).cell rfl) ?_
  by_cases h_6 : (c.th : Int) ≤ (6 : Int)
  ·
   refine K.y ((c.th : Int) ≤ (6 : Int)) h_6 ?_
   refine K.q [.bool true, .bool true, .pointer (some ⟨r_1, 1, none⟩)] ?_
   refine K.d (K.iv c.sl) ((hS.blk 0 rfl hg_3).cell rfl) ?_
   by_cases h_7 : (c.sl : Int) ≤ (30 : Int)
   ·
    refine K.y ((c.sl : Int) ≤ (30 : Int)) h_7 ?_
    refine K.q [.bool true, .bool true, .pointer (some ⟨r_1, 2, none⟩)] ?_
    refine K.d (K.iv c.lo) ((hS.blk 0 rfl hg_3).cell rfl) ?_
    by_cases h_8 : (c.lo : Int) ≤ (8 : Int)
    ·
     refine K.y ((c.lo : Int) ≤ (8 : Int)) h_8 ?_
     refine K.q [.bool true, .bool true, .pointer (some ⟨r_1, 3, none⟩)] ?_
     refine K.d (K.iv c.bu) ((hS.blk 0 rfl hg_3).cell rfl) ?_
     by_cases h_9 : (c.bu : Int) ≤ (8 : Int)
     ·
      refine K.y ((c.bu : Int) ≤ (8 : Int)) h_9 ?_
      refine K.q [.bool true, .bool true] (K.z (K.t (K.r ?_)))
      have hq := of_decide_eq_true hb_5
      refine ⟨.inr rfl, rfl, (.bool true), K.res1 rfl rfl, [], ?_, hS.pick [1]⟩
      exact ⟨rfl, .inl ⟨rfl, hq, by omega, by omega, by omega, by omega⟩⟩
     ·
      refine K.x ((c.bu : Int) ≤ (8 : Int)) h_9 ?_
      refine K.q [.bool false, .bool false] (K.z (K.t (K.r ?_)))
      have hq := of_decide_eq_true hb_5
      refine ⟨.inr rfl, rfl, (.bool false), K.res1 rfl rfl, [], ?_, hS.pick [1]⟩
      exact ⟨rfl, .inr ⟨rfl, fun h => by have h2 := h.2; omega⟩⟩
    ·
     refine K.x ((c.lo : Int) ≤ (8 : Int)) h_8 ?_
     refine K.q [.bool false, .bool false] (K.n_ (K.n_ (K.n_ (K.q [.bool false, .bool false] (K.z (K.t (K.r ?_)))))))
     have hq := of_decide_eq_true hb_5
     refine ⟨.inr rfl, rfl, (.bool false), K.res1 rfl rfl, [], ?_, hS.pick [1]⟩
     exact ⟨rfl, .inr ⟨rfl, fun h => by have h2 := h.2; omega⟩⟩
   ·
    refine K.x ((c.sl : Int) ≤ (30 : Int)) h_7 ?_
    refine K.q [.bool false, .bool false] (K.n_ (K.n_ (K.n_ (K.q [.bool false, .bool false] (K.n_ (K.n_ (K.n_ (K.q [.bool false, .bool false] (K.z (K.t (K.r ?_)))))))))))
    have hq := of_decide_eq_true hb_5
    refine ⟨.inr rfl, rfl, (.bool false), K.res1 rfl rfl, [], ?_, hS.pick [1]⟩
    exact ⟨rfl, .inr ⟨rfl, fun h => by have h2 := h.2; omega⟩⟩
  ·
   refine K.x ((c.th : Int) ≤ (6 : Int)) h_6 ?_
   refine K.q [.bool false, .bool false] (K.n_ (K.n_ (K.n_ (K.q [.bool false, .bool false] (K.n_ (K.n_ (K.n_ (K.q [.bool false, .bool false] (K.n_ (K.n_ (K.n_ (K.q [.bool false, .bool false] (K.z (K.t ?_))))))))))))))
   refine K.r ?_
   have hq := of_decide_eq_true hb_5
   refine ⟨.inr rfl, rfl, (.bool false), K.res1 rfl rfl, [], ?_, hS.pick [1]⟩
   exact ⟨rfl, .inr ⟨rfl, fun h => by have h2 := h.2; omega⟩⟩
end Go.Proofs.YtbfafebfkdbglaaGreat
