import Derived.Test.YtnehocjmgnhhhaaFra
import Derived.Test.YtnehocjmgnhhhaaKn
/- Witness: the document's Run. -/
namespace Go.Proofs.Ytnehocjmgnhhhaa
open Go.RowKit
set_option linter.unusedVariables false
attribute [local irreducible] K.KW K.RW K.DW K.OW K.QR K.KC
theorem Sat.over {w0 w w' : World} {ls ls' : List K.Cs} (h : K.Sat w0 ls w) (k : K.Sat w ls' w') : ∀ l, ls' = [l, []] → K.Sat w0 (l :: ls) w' := fun l e => by
 subst e
 refine h.add k.chg l ?_ (fun c hc => k.own c (by simp [hc]))
 have := k.nd
 simpa using this
theorem rapplyB_ok (w0 : World) (q s m : Option Addr) (cq cs cm : Nat) (qa sa : List Int) (ma : List PairM) (kind key val : Int) (h1 : qa.length ≤ 1000000) (h2 : sa.length ≤ 1000000) (h3 : ma.length ≤ 1000000) (hr1 : rising sa) (hr2 : rising (keysP ma)) (hc : qa.length ≤ cq) (x1 : RU32 w0 q qa) (x2 : RU32 w0 s sa) (x3 : RPr w0 m ma) :
  K.GC Try.prog w0 31 #[.agg #[.slice q qa.length cq, .slice s sa.length cs, .slice m ma.length cm], .agg #[K.iv kind, .int .u32 key, .int .u32 val]] [] (ApB q s m cq cs cm qa sa ma (applyT ⟨qa, sa, ma⟩ kind key val)) := by
 by_cases e1 : kind = 1
 ·subst e1; exact rapplyB1_ok w0 q s m cq cs cm qa sa ma key val h1 h2 h3 hr1 hr2 hc x1 x2 x3
 by_cases e2 : kind = 2
 ·subst e2; exact rapplyB2_ok w0 q s m cq cs cm qa sa ma key val h1 h2 h3 hr1 hr2 hc x1 x2 x3
 by_cases e3 : kind = 3
 ·subst e3; exact rapplyB3_ok w0 q s m cq cs cm qa sa ma key val h1 h2 h3 hr1 hr2 hc x1 x2 x3
 by_cases e4 : kind = 4
 ·subst e4; exact rapplyB4_ok w0 q s m cq cs cm qa sa ma key val h1 h2 h3 hr1 hr2 hc x1 x2 x3
 by_cases e5 : kind = 5
 ·subst e5; exact rapplyB5_ok w0 q s m cq cs cm qa sa ma key val h1 h2 h3 hr1 hr2 hc x1 x2 x3
 by_cases e6 : kind = 6
 ·subst e6; exact rapplyB6_ok w0 q s m cq cs cm qa sa ma key val h1 h2 h3 hr1 hr2 hc x1 x2 x3
 by_cases e7 : kind = 7
 ·subst e7; exact rapplyB7_ok w0 q s m cq cs cm qa sa ma key val h1 h2 h3 hr1 hr2 hc x1 x2 x3
 by_cases e8 : kind = 8
 ·subst e8; exact rapplyB8_ok w0 q s m cq cs cm qa sa ma key val h1 h2 h3 hr1 hr2 hc x1 x2 x3
 exact rapplyBN_ok w0 q s m cq cs cm qa sa ma kind key val (by omega) h1 h2 h3 hr1 hr2 hc x1 x2 x3
theorem rapplyK_ok (w0 : World) (q s m : Option Addr) (cq cs cm : Nat) (S : StM) (kind key val : Int) (k : Nat) (hk : k ≤ 1000000) (hg : goodS k S) (g : K.Cs) (x : RdSt w0 g q s m cq S) :
  K.GC Try.prog w0 31 #[stA q cq s cs m cm S, .agg #[K.iv kind, .int .u32 key, .int .u32 val]] [g] (StpR w0 g (applyT S kind key val).1 (fun z => .tuple #[z, .agg #[K.iv (applyT S kind key val).2.1, .int .u32 (applyT S kind key val).2.2]])) := fun fr w hS => by
 obtain ⟨qa, sa, ma⟩ := S
 obtain ⟨x1, x2, x3, hc⟩ := x
 obtain ⟨h1, h2, h3, hr1, hr2⟩ := hg
 simp only at x1 x2 x3 hc h1 h2 h3 hr1 hr2
 refine K.KC.mono (rapplyB_ok w q s m cq cs cm qa sa ma kind key val (by omega) (by omega) (by omega) hr1 hr2 hc (x1 _ (hS.pick [0])) (x2 _ (hS.pick [0])) (x3 _ (hS.pick [0])) [] w ((K.Sat.start w).of (by simp))) ?_
 generalize applyT ⟨qa, sa, ma⟩ kind key val = T
 obtain ⟨⟨Tq, Ts, Tm⟩, rk, rv⟩ := T
 rintro v w' ⟨post, ⟨z, rfl, ⟨a', c', l, rfl, hl, rfl, e1, e2⟩ | ⟨a', c', l, rfl, hl, rfl, e1, e2⟩ | ⟨a', c', l, rfl, hl, rfl, e1, e2⟩ | ⟨rfl, e1, rfl⟩ | ⟨rfl, e1, e2, rfl⟩⟩, hS2⟩
 ·have hS' := Sat.over hS hS2 l rfl
  simp only at e1 e2; subst e1 e2
  exact ⟨[[g, l].flatten], ⟨_, _, _, _, _, _, _, rfl, rfl, ⟨fun w h => rdU_own hl rfl w (Grow.add2 w0 g l w h), fun w h => x2 w (Grow.add w0 g l w h), fun w h => x3 w (Grow.add w0 g l w h), hl.le.1⟩, Grow.add w0 g l⟩, (hS'.pick [1, 0, 2]).of (by simp [K.pick, K.nth])⟩
 ·have hS' := Sat.over hS hS2 l rfl
  simp only at e1 e2; subst e1 e2
  exact ⟨[[g, l].flatten], ⟨_, _, _, _, _, _, _, rfl, rfl, ⟨fun w h => x1 w (Grow.add w0 g l w h), fun w h => rdU_own hl rfl w (Grow.add2 w0 g l w h), fun w h => x3 w (Grow.add w0 g l w h), hc⟩, Grow.add w0 g l⟩, (hS'.pick [1, 0, 2]).of (by simp [K.pick, K.nth])⟩
 ·have hS' := Sat.over hS hS2 l rfl
  simp only at e1 e2; subst e1 e2
  exact ⟨[[g, l].flatten], ⟨_, _, _, _, _, _, _, rfl, rfl, ⟨fun w h => x1 w (Grow.add w0 g l w h), fun w h => x2 w (Grow.add w0 g l w h), fun w h => rdP_own hl rfl w (Grow.add2 w0 g l w h), hc⟩, Grow.add w0 g l⟩, (hS'.pick [1, 0, 2]).of (by simp [K.pick, K.nth])⟩
 ·simp only [StM.mk.injEq] at e1
  obtain ⟨rfl, rfl, rfl⟩ := e1
  exact ⟨[g], ⟨_, _, _, _, _, _, _, rfl, rfl, ⟨x1, x2, x3, hc⟩, Grow.refl w0 g⟩, hS.no hS2.chg⟩
 ·simp only [StM.mk.injEq] at e1
  obtain ⟨rfl, rfl, rfl⟩ := e1
  refine ⟨[g], ⟨K.shift q cq 1 1, cq - 1, s, cs, m, cm, g, rfl, ?_, ⟨rdU_tail x1 (by omega) hc, x2, x3, by show (qa.drop 1).length ≤ _; rw [List.length_drop]; omega⟩, Grow.refl w0 g⟩, hS.no hS2.chg⟩
  show _ = Value.tuple #[.agg #[.slice _ (qa.drop 1).length _, _, _], _]
  rw [List.length_drop]
theorem nx_cr {S : StM} {c : CallM} (h : c.cr = true) (hk : (applyT S c.ok c.key c.val).2.1 = 1) : nxtT S c = ((applyT S c.ok c.key c.val).1, true) := by
 unfold nxtT; rw [if_neg (by rw [h]; simp)]; simp [hk]
theorem nx_crn {S : StM} {c : CallM} (h : c.cr = true) (hk : ¬ (applyT S c.ok c.key c.val).2.1 = 1) : (nxtT S c).2 = false := by
 unfold nxtT; rw [if_neg (by rw [h]; simp)]; simp [hk]
theorem nx_eq {S : StM} {c : CallM} (h : c.cr = false) (hv : 1 ≤ c.ok ∧ c.ok ≤ 8) (he : c.rk = (applyT S c.ok c.key c.val).2.1 ∧ c.rv = (applyT S c.ok c.key c.val).2.2) : nxtT S c = ((applyT S c.ok c.key c.val).1, true) := by
 unfold nxtT alwT; rw [if_pos h, if_neg (fun hh => hh hv), if_pos he]
theorem nx_five {S : StM} {c : CallM} (h : c.cr = false) (hv : 1 ≤ c.ok ∧ c.ok ≤ 8) (he : ¬ (c.rk = (applyT S c.ok c.key c.val).2.1 ∧ c.rv = (applyT S c.ok c.key c.val).2.2)) (h5 : c.rk = 5 ∧ c.rv = 0) : nxtT S c = (S, true) := by
 unfold nxtT alwT; rw [if_pos h, if_neg (fun hh => hh hv), if_neg he, if_pos h5]
theorem nx_no {S : StM} {c : CallM} (h : c.cr = false) (he : ¬ (c.rk = (applyT S c.ok c.key c.val).2.1 ∧ c.rv = (applyT S c.ok c.key c.val).2.2)) (h5 : ¬ (c.rk = 5 ∧ c.rv = 0)) : (nxtT S c).2 = false := by
 unfold nxtT alwT; rw [if_pos h]
 split
 ·rfl
 ·first | rfl | (rw [if_neg he, if_neg h5])
set_option maxHeartbeats 16000000 in
set_option maxRecDepth 100000 in
theorem run_ok (w0 : World) (a b : Option Addr) (cap cb : Nat) (L : List CallM) (P : List Int) (hm : L.length ≤ 1000000) (gx : K.Cs) (hx : ∀ w, K.Sat w0 [gx] w → K.RowE w a L.length 11 (fun i => cCall (L.getD i call0))) (q s mm : Option Addr) (cq cs cm : Nat) (S : StM) (hl2 : S.s.length ≤ 1000) (hl3 : S.m.length ≤ 1000) (g : K.Cs) (x : RdSt w0 g q s mm cq S) (gp : K.Cs) (hpx : ∀ w, K.Sat w0 [gp] w → K.RowE w b P.length 1 (fun i => cI64 (P.getD i 0))) (hl0 : L.length ≤ 100) (hp0 : P.length ≤ L.length) (hl1 : S.q.length ≤ 100) (hl2' : S.s.length ≤ 100) (hl3' : S.m.length ≤ 100) (hok : okS S) (hv : valP L P) (hkd : ∀ i, i < L.length → 1 ≤ (L.getD i call0).ok ∧ (L.getD i call0).ok ≤ 8) :
  K.GC Try.prog w0 16 #[.agg #[.slice q S.q.length cq, .slice s S.s.length cs, .slice mm S.m.length cm], .slice a L.length cap, .slice b P.length cb] [g, gx, gp] (fun v post => ∃ g', post = [g', gx, gp] ∧ Grow w0 g g' ∧ ((runN L S P = none ∧ v = .tuple #[.agg #[.slice none 0 0, .slice none 0 0, .slice none 0 0], .bool false]) ∨ (∃ T q' cq' s' cs' m' cm', runN L S P = some T ∧ goodS 1000 T ∧ v = .tuple #[stA q' cq' s' cs' m' cm' T, .bool true] ∧ RdSt w0 g' q' s' m' cq' T))) := by
 refine K.GC.mk (n := 66) Try.func16 rfl rfl [.agg #[.slice q S.q.length cq, .slice s S.s.length cs, .slice mm S.m.length cm], .slice a L.length cap, .slice b P.length cb] rfl rfl ?_
 intro fr w hS
 replace hS : K.Sat w0 [g, gx, gp, fr] w := hS
 refine K.s (K.g ?_)
 refine K.l (K.OW.gnew 30 [.slice q S.q.length cq, .slice s S.s.length cs, .slice mm S.m.length cm] hS ?_)
 clear hS; intro w r_1 g_2 hg_3 hS
 refine K.l (K.OW.gnew 30 [.slice none 0 0, .slice none 0 0, .slice none 0 0] hS ?_)
 clear hS; intro w r_4 g_5 hg_6 hS
 refine K.q [.bool false] (K.z (K.t (K.s (K.s (K.g (K.q [K.iv 0] (K.z (K.t ?_))))))))
 refine K.KW.block ?_
 refine K.KW.loop (fun m_ F_ w_ => ∃ (j : Nat) (q1 : Option Addr) (cq1 : Nat) (s1 : Option Addr) (cs1 : Nat) (m1 : Option Addr) (cm1 : Nat) (S1 : StM) (b2 : K.Cs) (g1 : K.Cs), m_ = 1000 - j ∧ K.Sl F_ [(0, .agg #[.slice q S.q.length cq, .slice s S.s.length cs, .slice mm S.m.length cm]), (1, .slice a L.length cap), (2, .slice b P.length cb), (3, K.pa r_1), (6, K.pa r_4), (8, K.iv ((j : Nat) : Int)), (66, undef)] ∧ j ≤ P.length ∧ runN L S P = runN L S1 (P.drop j) ∧ goodS (100 + j) S1 ∧ RdSt w0 g1 q1 s1 m1 cq1 S1 ∧ Grow w0 g g1 ∧ b2 = [K.pt r_1 30 [.slice q1 S1.q.length cq1, .slice s1 S1.s.length cs1, .slice m1 S1.m.length cm1]] ∧ True ∧ K.Sat w0 [g_5, b2, g1, gx, gp, fr] w_) ((fun (j : Nat) (q1 : Option Addr) (cq1 : Nat) (s1 : Option Addr) (cs1 : Nat) (m1 : Option Addr) (cm1 : Nat) (S1 : StM) => 1000 - j) 0 q cq s cs mm cm S) ?_ ?_
 ·
  exact ⟨0, q, cq, s, cs, mm, cm, S, g_2, g, rfl, ⟨by rfl, by rfl, by rfl, by rfl, by rfl, by rfl, by rfl, trivial⟩, (by omega), (rfl), (⟨by omega, by omega, by omega, hok.1, hok.2⟩), (x), (Grow.refl w0 g), hg_3, trivial, hS.pick [0, 1, 2, 3, 4, 5]⟩
 ·
  clear hS
  intro m_7 F_8 w hI
  obtain ⟨j, q1, cq1, s1, cs1, m1, cm1, S1, b2, g1, rfl, sl_9, p_10, hrn, hgd, hx1, hgr, x_11, x_12, hS⟩ := hI
  rw [← K.Sl.puts sl_9]; clear sl_9
  have hxq9 := x.mono hgr
  refine K.s (K.s (K.g (K.q [K.iv ((j : Nat) : Int), .slice b P.length cb] ?_)))
  refine K.a (K.QR.len (P := Try.prog) rfl rfl Try.underlying23) ?_
  by_cases h_13 : (((j : Nat) : Int) : Int) < (((P.length : Nat) : Int) : Int)
  ·
   refine K.y ((((j : Nat) : Int) : Int) < (((P.length : Nat) : Int) : Int)) h_13 ?_
   refine K.z (K.t (K.h (K.k (K.t (K.s ?_)))))
   refine K.KW.block ?_
   refine K.s ?_
   have hvj := hv j (by omega)
   have hkj := hkd (P.getD j 0).toNat (by omega)
   obtain ⟨b_14, of_15, rfl, _⟩ := (hpx _ (hS.pick [4])).at_ (by omega)
   obtain ⟨b_16, of_17, rfl, _⟩ := (hx _ (hS.pick [3])).at_ (by omega)
   refine K.g (K.q [.slice (some ⟨b_16, of_17, none⟩) L.length cap, .slice (some ⟨b_14, of_15, none⟩) P.length cb, K.iv ((j : Nat) : Int)] ?_)
   refine K.a (K.QR.ix (of_15 + j * 1) 1 rfl rfl rfl Try.underlying23 (by kernel_rfl) (by omega) (by first | (simp; done) | omega | (simp; omega))) ?_
   refine K.d (K.iv (P.getD j 0)) ((hpx _ (hS.pick [4])).ld j (by omega) 0 _ rfl) ?_
   refine K.a (K.QR.ix (of_17 + ((P.getD j 0).toNat) * 11) 11 rfl rfl rfl Try.underlying22 (by kernel_rfl) (by omega) (by first | (simp; done) | omega | (simp; omega))) ?_
   refine K.a (K.QR.ldN [K.iv ((L.getD ((P.getD j 0).toNat) call0).th), K.iv ((L.getD ((P.getD j 0).toNat) call0).ok), .int .u32 ((L.getD ((P.getD j 0).toNat) call0).key), .int .u32 ((L.getD ((P.getD j 0).toNat) call0).val), K.iv ((L.getD ((P.getD j 0).toNat) call0).rk), .int .u32 ((L.getD ((P.getD j 0).toNat) call0).rv), K.iv ((L.getD ((P.getD j 0).toNat) call0).beg), K.iv ((L.getD ((P.getD j 0).toNat) call0).en), K.iv ((L.getD ((P.getD j 0).toNat) call0).wh), .bool ((L.getD ((P.getD j 0).toNat) call0).cr), .bool ((L.getD ((P.getD j 0).toNat) call0).kp)] rfl rfl (by kernel_rfl) (by kernel_rfl) (K.cells (K.cl ((hx _ (hS.pick [3])).ld ((P.getD j 0).toNat) (by omega) 0 _ rfl) (K.cl ((hx _ (hS.pick [3])).ld ((P.getD j 0).toNat) (by omega) 1 _ rfl) (K.cl ((hx _ (hS.pick [3])).ld ((P.getD j 0).toNat) (by omega) 2 _ rfl) (K.cl ((hx _ (hS.pick [3])).ld ((P.getD j 0).toNat) (by omega) 3 _ rfl) (K.cl ((hx _ (hS.pick [3])).ld ((P.getD j 0).toNat) (by omega) 4 _ rfl) (K.cl ((hx _ (hS.pick [3])).ld ((P.getD j 0).toNat) (by omega) 5 _ rfl) (K.cl ((hx _ (hS.pick [3])).ld ((P.getD j 0).toNat) (by omega) 6 _ rfl) (K.cl ((hx _ (hS.pick [3])).ld ((P.getD j 0).toNat) (by omega) 7 _ rfl) (K.cl ((hx _ (hS.pick [3])).ld ((P.getD j 0).toNat) (by omega) 8 _ rfl) (K.cl ((hx _ (hS.pick [3])).ld ((P.getD j 0).toNat) (by omega) 9 _ rfl) (K.cl ((hx _ (hS.pick [3])).ld ((P.getD j 0).toNat) (by omega) 10 _ rfl) K.cl0))))))))))))) ?_
   refine K.l (K.OW.gnew 51 [K.iv 0, K.iv 0, .int .u32 0, .int .u32 0, K.iv 0, .int .u32 0, K.iv 0, K.iv 0, K.iv 0, .bool false, .bool false] hS ?_)
   clear hS; intro w r_18 g_19 hg_20 hS
   refine K.l (K.OW.gst 0 [K.iv ((L.getD ((P.getD j 0).toNat) call0).th), K.iv ((L.getD ((P.getD j 0).toNat) call0).ok), .int .u32 ((L.getD ((P.getD j 0).toNat) call0).key), .int .u32 ((L.getD ((P.getD j 0).toNat) call0).val), K.iv ((L.getD ((P.getD j 0).toNat) call0).rk), .int .u32 ((L.getD ((P.getD j 0).toNat) call0).rv), K.iv ((L.getD ((P.getD j 0).toNat) call0).beg), K.iv ((L.getD ((P.getD j 0).toNat) call0).en), K.iv ((L.getD ((P.getD j 0).toNat) call0).wh), .bool ((L.getD ((P.getD j 0).toNat) call0).cr), .bool ((L.getD ((P.getD j 0).toNat) call0).kp)] _ hS hg_20 ?_)
   clear hS; intro w g_21 hg_22 hS
   replace hS : K.Sat w0 [g_21, g_5, b2, g1, gx, gp, fr] w := hS
   refine K.z (K.t (K.s (K.g ?_)))
   refine K.a (K.QR.ldN [.slice q1 S1.q.length cq1, .slice s1 S1.s.length cs1, .slice m1 S1.m.length cm1] rfl rfl (by kernel_rfl) (by kernel_rfl) (K.cells (K.cl ((hS.blk 2 rfl x_11).cell rfl) (K.cl ((hS.blk 2 rfl x_11).cell rfl) (K.cl ((hS.blk 2 rfl x_11).cell rfl) K.cl0))))) ?_
   refine K.q [.pointer (some ⟨r_18, 1, none⟩)] ?_
   refine K.a (K.QR.ldN [K.iv ((L.getD ((P.getD j 0).toNat) call0).ok), .int .u32 ((L.getD ((P.getD j 0).toNat) call0).key), .int .u32 ((L.getD ((P.getD j 0).toNat) call0).val)] rfl rfl (by kernel_rfl) (by kernel_rfl) (K.cells (K.cl ((hS.blk 0 rfl hg_22).cell rfl) (K.cl ((hS.blk 0 rfl hg_22).cell rfl) (K.cl ((hS.blk 0 rfl hg_22).cell rfl) K.cl0))))) ?_
   refine K.l (K.OW.gcall hS [3] [0, 1, 2, 4, 5, 6] [.agg #[.slice q1 S1.q.length cq1, .slice s1 S1.s.length cs1, .slice m1 S1.m.length cm1], .agg #[K.iv ((L.getD ((P.getD j 0).toNat) call0).ok), .int .u32 ((L.getD ((P.getD j 0).toNat) call0).key), .int .u32 ((L.getD ((P.getD j 0).toNat) call0).val)]] (rapplyK_ok _ q1 s1 m1 cq1 cs1 cm1 S1 ((L.getD ((P.getD j 0).toNat) call0).ok) ((L.getD ((P.getD j 0).toNat) call0).key) ((L.getD ((P.getD j 0).toNat) call0).val) _ (by omega) hgd _ hx1) ?_)
   clear hS; rintro _ _ w ⟨q_23, cq_24, s_25, cs_26, m_27, cm_28, g_29, rfl, rfl, hx_30, hg_31⟩ hS
   have hr_32 := hxq9.mono hg_31
   have hr_33 := hx1.mono hg_31
   replace hS : K.Sat w0 [g_29, g_21, g_5, b2, gx, gp, fr] w := hS
   refine K.q [.tuple #[.agg #[.slice q_23 (((applyT S1 ((L.getD ((P.getD j 0).toNat) call0).ok) ((L.getD ((P.getD j 0).toNat) call0).key) ((L.getD ((P.getD j 0).toNat) call0).val)).1).q.length) cq_24, .slice s_25 (((applyT S1 ((L.getD ((P.getD j 0).toNat) call0).ok) ((L.getD ((P.getD j 0).toNat) call0).key) ((L.getD ((P.getD j 0).toNat) call0).val)).1).s.length) cs_26, .slice m_27 (((applyT S1 ((L.getD ((P.getD j 0).toNat) call0).ok) ((L.getD ((P.getD j 0).toNat) call0).key) ((L.getD ((P.getD j 0).toNat) call0).val)).1).m.length) cm_28], .agg #[K.iv ((applyT S1 ((L.getD ((P.getD j 0).toNat) call0).ok) ((L.getD ((P.getD j 0).toNat) call0).key) ((L.getD ((P.getD j 0).toNat) call0).val)).2.1), .int .u32 ((applyT S1 ((L.getD ((P.getD j 0).toNat) call0).ok) ((L.getD ((P.getD j 0).toNat) call0).key) ((L.getD ((P.getD j 0).toNat) call0).val)).2.2)]], .agg #[.slice q_23 (((applyT S1 ((L.getD ((P.getD j 0).toNat) call0).ok) ((L.getD ((P.getD j 0).toNat) call0).key) ((L.getD ((P.getD j 0).toNat) call0).val)).1).q.length) cq_24, .slice s_25 (((applyT S1 ((L.getD ((P.getD j 0).toNat) call0).ok) ((L.getD ((P.getD j 0).toNat) call0).key) ((L.getD ((P.getD j 0).toNat) call0).val)).1).s.length) cs_26, .slice m_27 (((applyT S1 ((L.getD ((P.getD j 0).toNat) call0).ok) ((L.getD ((P.getD j 0).toNat) call0).key) ((L.getD ((P.getD j 0).toNat) call0).val)).1).m.length) cm_28], .agg #[K.iv ((applyT S1 ((L.getD ((P.getD j 0).toNat) call0).ok) ((L.getD ((P.getD j 0).toNat) call0).key) ((L.getD ((P.getD j 0).toNat) call0).val)).2.1), .int .u32 ((applyT S1 ((L.getD ((P.getD j 0).toNat) call0).ok) ((L.getD ((P.getD j 0).toNat) call0).key) ((L.getD ((P.getD j 0).toNat) call0).val)).2.2)]] ?_
   refine K.l (K.OW.gnew 30 [.slice none 0 0, .slice none 0 0, .slice none 0 0] hS ?_)
   clear hS; intro w r_34 g_35 hg_36 hS
   refine K.l (K.OW.gnew 49 [K.iv 0, .int .u32 0] hS ?_)
   clear hS; intro w r_37 g_38 hg_39 hS
   refine K.l (K.OW.gst 1 [.slice q_23 (((applyT S1 ((L.getD ((P.getD j 0).toNat) call0).ok) ((L.getD ((P.getD j 0).toNat) call0).key) ((L.getD ((P.getD j 0).toNat) call0).val)).1).q.length) cq_24, .slice s_25 (((applyT S1 ((L.getD ((P.getD j 0).toNat) call0).ok) ((L.getD ((P.getD j 0).toNat) call0).key) ((L.getD ((P.getD j 0).toNat) call0).val)).1).s.length) cs_26, .slice m_27 (((applyT S1 ((L.getD ((P.getD j 0).toNat) call0).ok) ((L.getD ((P.getD j 0).toNat) call0).key) ((L.getD ((P.getD j 0).toNat) call0).val)).1).m.length) cm_28] _ hS hg_36 ?_)
   clear hS; intro w g_40 hg_41 hS
   replace hS : K.Sat w0 [g_38, g_40, g_29, g_21, g_5, b2, gx, gp, fr] w := hS
   refine K.l (K.OW.gst 0 [K.iv ((applyT S1 ((L.getD ((P.getD j 0).toNat) call0).ok) ((L.getD ((P.getD j 0).toNat) call0).key) ((L.getD ((P.getD j 0).toNat) call0).val)).2.1), .int .u32 ((applyT S1 ((L.getD ((P.getD j 0).toNat) call0).ok) ((L.getD ((P.getD j 0).toNat) call0).key) ((L.getD ((P.getD j 0).toNat) call0).val)).2.2)] _ hS hg_39 ?_)
   clear hS; intro w g_42 hg_43 hS
   replace hS : K.Sat w0 [g_42, g_40, g_29, g_21, g_5, b2, gx, gp, fr] w := hS
   refine K.z (K.t (K.s (K.s (K.g (K.q [.pointer (some ⟨r_18, 9, none⟩)] ?_)))))
   refine K.d (.bool ((L.getD ((P.getD j 0).toNat) call0).cr)) ((hS.blk 3 rfl hg_22).cell rfl) ?_
   cases hb_44 : (L.getD ((P.getD j 0).toNat) call0).cr
   ·
    refine K.q [.bool false] (K.n_ (K.n_ (K.n_ (K.q [.bool false] (K.z (K.t (K.f (K.k (K.t (K.s (K.s (K.g (K.q [.pointer (some ⟨r_18, 9, none⟩)] ?_)))))))))))))
    refine K.a (K.QR.turn (v := .bool ((L.getD ((P.getD j 0).toNat) call0).cr)) (K.QR.ld1 (v := .bool ((L.getD ((P.getD j 0).toNat) call0).cr)) rfl rfl (by kernel_rfl) ((hS.blk 3 rfl hg_22).cell rfl)) (congrArg Value.bool hb_44)) ?_
    refine K.q [.bool true, .bool true, .pointer (some ⟨r_18, 4, none⟩)] ?_
    refine K.a (K.QR.ldN [K.iv ((L.getD ((P.getD j 0).toNat) call0).rk), .int .u32 ((L.getD ((P.getD j 0).toNat) call0).rv)] rfl rfl (by kernel_rfl) (by kernel_rfl) (K.cells (K.cl ((hS.blk 3 rfl hg_22).cell rfl) (K.cl ((hS.blk 3 rfl hg_22).cell rfl) K.cl0)))) ?_
    refine K.a (K.QR.ldN [K.iv ((applyT S1 ((L.getD ((P.getD j 0).toNat) call0).ok) ((L.getD ((P.getD j 0).toNat) call0).key) ((L.getD ((P.getD j 0).toNat) call0).val)).2.1), .int .u32 ((applyT S1 ((L.getD ((P.getD j 0).toNat) call0).ok) ((L.getD ((P.getD j 0).toNat) call0).key) ((L.getD ((P.getD j 0).toNat) call0).val)).2.2)] rfl rfl (by kernel_rfl) (by kernel_rfl) (K.cells (K.cl ((hS.blk 0 rfl hg_43).cell rfl) (K.cl ((hS.blk 0 rfl hg_43).cell rfl) K.cl0)))) ?_
    by_cases h_45 : ((L.getD ((P.getD j 0).toNat) call0).rk : Int) = (applyT S1 ((L.getD ((P.getD j 0).toNat) call0).ok) ((L.getD ((P.getD j 0).toNat) call0).key) ((L.getD ((P.getD j 0).toNat) call0).val)).2.1 ∧ ((L.getD ((P.getD j 0).toNat) call0).rv : Int) = (applyT S1 ((L.getD ((P.getD j 0).toNat) call0).ok) ((L.getD ((P.getD j 0).toNat) call0).key) ((L.getD ((P.getD j 0).toNat) call0).val)).2.2
    ·
     refine K.a (K.QR.neS (by kernel_rfl) rfl rfl rfl (eqRes_t h_45)) ?_
     refine K.q [.bool false, .bool false] (K.n_ (K.n_ (K.n_ (K.n_ (K.q [.bool false] (K.z (K.t (K.f (K.k (K.t (K.s (K.g (K.q [.pointer (some ⟨r_18, 9, none⟩)] ?_)))))))))))))
     refine K.a (K.QR.turn (v := .bool ((L.getD ((P.getD j 0).toNat) call0).cr)) (K.QR.ld1 (v := .bool ((L.getD ((P.getD j 0).toNat) call0).cr)) rfl rfl (by kernel_rfl) ((hS.blk 3 rfl hg_22).cell rfl)) (congrArg Value.bool hb_44)) ?_
     refine K.q [.bool false, .pointer (some ⟨r_18, 4, none⟩)] ?_
     refine K.a (K.QR.ldN [K.iv ((L.getD ((P.getD j 0).toNat) call0).rk), .int .u32 ((L.getD ((P.getD j 0).toNat) call0).rv)] rfl rfl (by kernel_rfl) (by kernel_rfl) (K.cells (K.cl ((hS.blk 3 rfl hg_22).cell rfl) (K.cl ((hS.blk 3 rfl hg_22).cell rfl) K.cl0)))) ?_
     refine K.a (K.QR.ldN [K.iv ((applyT S1 ((L.getD ((P.getD j 0).toNat) call0).ok) ((L.getD ((P.getD j 0).toNat) call0).key) ((L.getD ((P.getD j 0).toNat) call0).val)).2.1), .int .u32 ((applyT S1 ((L.getD ((P.getD j 0).toNat) call0).ok) ((L.getD ((P.getD j 0).toNat) call0).key) ((L.getD ((P.getD j 0).toNat) call0).val)).2.2)] rfl rfl (by kernel_rfl) (by kernel_rfl) (K.cells (K.cl ((hS.blk 0 rfl hg_43).cell rfl) (K.cl ((hS.blk 0 rfl hg_43).cell rfl) K.cl0)))) ?_
     refine K.a (K.QR.eqS (by kernel_rfl) rfl rfl rfl (eqRes_t h_45)) ?_
     refine K.q [.bool true] (K.z (K.t (K.h (K.g ?_))))
     refine K.a (K.QR.ldN [.slice q_23 (((applyT S1 ((L.getD ((P.getD j 0).toNat) call0).ok) ((L.getD ((P.getD j 0).toNat) call0).key) ((L.getD ((P.getD j 0).toNat) call0).val)).1).q.length) cq_24, .slice s_25 (((applyT S1 ((L.getD ((P.getD j 0).toNat) call0).ok) ((L.getD ((P.getD j 0).toNat) call0).key) ((L.getD ((P.getD j 0).toNat) call0).val)).1).s.length) cs_26, .slice m_27 (((applyT S1 ((L.getD ((P.getD j 0).toNat) call0).ok) ((L.getD ((P.getD j 0).toNat) call0).key) ((L.getD ((P.getD j 0).toNat) call0).val)).1).m.length) cm_28] rfl rfl (by kernel_rfl) (by kernel_rfl) (K.cells (K.cl ((hS.blk 1 rfl hg_41).cell rfl) (K.cl ((hS.blk 1 rfl hg_41).cell rfl) (K.cl ((hS.blk 1 rfl hg_41).cell rfl) K.cl0))))) ?_
     refine K.l (K.OW.gst 5 [.slice q_23 (((applyT S1 ((L.getD ((P.getD j 0).toNat) call0).ok) ((L.getD ((P.getD j 0).toNat) call0).key) ((L.getD ((P.getD j 0).toNat) call0).val)).1).q.length) cq_24, .slice s_25 (((applyT S1 ((L.getD ((P.getD j 0).toNat) call0).ok) ((L.getD ((P.getD j 0).toNat) call0).key) ((L.getD ((P.getD j 0).toNat) call0).val)).1).s.length) cs_26, .slice m_27 (((applyT S1 ((L.getD ((P.getD j 0).toNat) call0).ok) ((L.getD ((P.getD j 0).toNat) call0).key) ((L.getD ((P.getD j 0).toNat) call0).val)).1).m.length) cm_28] _ hS x_11 ?_)
     clear hS; intro w g_46 hg_47 hS
     replace hS : K.Sat w0 [g_42, g_40, g_29, g_21, g_5, g_46, gx, gp, fr] w := hS
     refine K.z ?_
     refine K.blk_normal ?_
     refine K.t (K.g (K.q [K.iv ((j : Nat) : Int)] ?_))
     refine K.a (K.QR.n64 ((((j : Nat) : Int) : Int) + (1 : Int)) ((j + 1 : Nat) : Int) (by kernel_rfl) (by omega)) ?_
     refine K.q [K.iv ((j + 1 : Nat) : Int)] (K.z (K.t ?_))
     refine ⟨_, ?_, j + 1, q_23, cq_24, s_25, cs_26, m_27, cm_28, ((applyT S1 ((L.getD ((P.getD j 0).toNat) call0).ok) ((L.getD ((P.getD j 0).toNat) call0).key) ((L.getD ((P.getD j 0).toNat) call0).val)).1), g_46, g_29, rfl, ⟨by rfl, by rfl, by rfl, by rfl, by rfl, by rfl, by rfl, trivial⟩, (by omega), (by have hN := nx_eq hb_44 hkj h_45; rw [hrn, runN_y (by omega) (by rw [hN]), hN]), (hgd.apply), (hx_30), ((hgr.trans hg_31)), hg_47, trivial, hS.pick [4, 5, 2, 6, 7, 8]⟩
     omega
    ·
     refine K.a (K.QR.neS (by kernel_rfl) rfl rfl rfl (eqRes_f h_45)) ?_
     refine K.q [.bool true, .bool true, .pointer (some ⟨r_18, 4, none⟩)] ?_
     refine K.a (K.QR.ldN [K.iv ((L.getD ((P.getD j 0).toNat) call0).rk), .int .u32 ((L.getD ((P.getD j 0).toNat) call0).rv)] rfl rfl (by kernel_rfl) (by kernel_rfl) (K.cells (K.cl ((hS.blk 3 rfl hg_22).cell rfl) (K.cl ((hS.blk 3 rfl hg_22).cell rfl) K.cl0)))) ?_
     refine K.a (K.QR.bd [(0, K.iv 5)] [K.iv 5, .int .u32 0] rfl rfl (by kernel_rfl)) ?_
     by_cases h_48 : ((L.getD ((P.getD j 0).toNat) call0).rk : Int) = 5 ∧ ((L.getD ((P.getD j 0).toNat) call0).rv : Int) = 0
     ·
      refine K.a (K.QR.neS (by kernel_rfl) rfl rfl rfl (eqRes_t h_48)) ?_
      refine K.q [.bool false] (K.z (K.t (K.f (K.k (K.t (K.s (K.g (K.q [.pointer (some ⟨r_18, 9, none⟩)] ?_))))))))
      refine K.a (K.QR.turn (v := .bool ((L.getD ((P.getD j 0).toNat) call0).cr)) (K.QR.ld1 (v := .bool ((L.getD ((P.getD j 0).toNat) call0).cr)) rfl rfl (by kernel_rfl) ((hS.blk 3 rfl hg_22).cell rfl)) (congrArg Value.bool hb_44)) ?_
      refine K.q [.bool false, .pointer (some ⟨r_18, 4, none⟩)] ?_
      refine K.a (K.QR.ldN [K.iv ((L.getD ((P.getD j 0).toNat) call0).rk), .int .u32 ((L.getD ((P.getD j 0).toNat) call0).rv)] rfl rfl (by kernel_rfl) (by kernel_rfl) (K.cells (K.cl ((hS.blk 3 rfl hg_22).cell rfl) (K.cl ((hS.blk 3 rfl hg_22).cell rfl) K.cl0)))) ?_
      refine K.a (K.QR.ldN [K.iv ((applyT S1 ((L.getD ((P.getD j 0).toNat) call0).ok) ((L.getD ((P.getD j 0).toNat) call0).key) ((L.getD ((P.getD j 0).toNat) call0).val)).2.1), .int .u32 ((applyT S1 ((L.getD ((P.getD j 0).toNat) call0).ok) ((L.getD ((P.getD j 0).toNat) call0).key) ((L.getD ((P.getD j 0).toNat) call0).val)).2.2)] rfl rfl (by kernel_rfl) (by kernel_rfl) (K.cells (K.cl ((hS.blk 0 rfl hg_43).cell rfl) (K.cl ((hS.blk 0 rfl hg_43).cell rfl) K.cl0)))) ?_
      refine K.a (K.QR.eqS (by kernel_rfl) rfl rfl rfl (eqRes_f h_45)) ?_
      refine K.q [.bool false] (K.z (K.t (K.f (K.k ?_))))
      refine K.blk_normal ?_
      refine K.t (K.g (K.q [K.iv ((j : Nat) : Int)] ?_))
      refine K.a (K.QR.n64 ((((j : Nat) : Int) : Int) + (1 : Int)) ((j + 1 : Nat) : Int) (by kernel_rfl) (by omega)) ?_
      refine K.q [K.iv ((j + 1 : Nat) : Int)] (K.z (K.t ?_))
      refine ⟨_, ?_, j + 1, q1, cq1, s1, cs1, m1, cm1, S1, b2, g_29, rfl, ⟨by rfl, by rfl, by rfl, by rfl, by rfl, by rfl, by rfl, trivial⟩, (by omega), (by have hN := nx_five hb_44 hkj h_45 h_48; rw [hrn, runN_y (by omega) (by rw [hN]), hN]), (hgd.le (by omega)), (hr_33), ((hgr.trans hg_31)), x_11, trivial, hS.pick [4, 5, 2, 6, 7, 8]⟩
      omega
     ·
      refine K.a (K.QR.neS (by kernel_rfl) rfl rfl rfl (eqRes_f h_48)) ?_
      refine K.q [.bool true] (K.z (K.t (K.h (K.s (K.g ?_)))))
      refine K.a (K.QR.bd [] [.slice none 0 0, .slice none 0 0, .slice none 0 0] rfl rfl (by kernel_rfl)) ?_
      refine K.l (K.OW.gst 4 [.slice none 0 0, .slice none 0 0, .slice none 0 0] _ hS hg_6 ?_)
      clear hS; intro w g_49 hg_50 hS
      replace hS : K.Sat w0 [g_42, g_40, g_29, g_21, g_49, b2, gx, gp, fr] w := hS
      refine K.q [.bool false] (K.z (K.t (K.r (K.u ?_))))
      refine K.blk_ret ?_
      refine K.u (K.u ?_)
      refine K.blk_ret ?_
      refine K.u ?_
      refine ⟨.inr rfl, rfl, (.tuple #[.agg #[.slice none 0 0, .slice none 0 0, .slice none 0 0], .bool false]), K.resAt (rs := [.cell 6 30, .tmp 7]) [.agg #[.slice none 0 0, .slice none 0 0, .slice none 0 0], .bool false] rfl ⟨⟨_, rfl, K.lvN [.slice none 0 0, .slice none 0 0, .slice none 0 0] (by kernel_rfl) (by kernel_rfl) (K.cells (K.cl ((hS.blk 4 rfl hg_50).cell rfl) (K.cl ((hS.blk 4 rfl hg_50).cell rfl) (K.cl ((hS.blk 4 rfl hg_50).cell rfl) K.cl0))))⟩, rfl, trivial⟩, [g_29, gx, gp], ?_, hS.pick [2, 6, 7, 8]⟩
      exact ⟨_, rfl, (hgr.trans hg_31), .inl ⟨by have h9 := hrn; rw [runN_n (by omega) (nx_no hb_44 h_45 h_48)] at h9; simpa using h9, rfl⟩⟩
   ·
    refine K.q [.bool true, K.pa r_37] ?_
    refine K.d (K.iv ((applyT S1 ((L.getD ((P.getD j 0).toNat) call0).ok) ((L.getD ((P.getD j 0).toNat) call0).key) ((L.getD ((P.getD j 0).toNat) call0).val)).2.1)) ((hS.blk 0 rfl hg_43).cell rfl) ?_
    by_cases h_51 : ((applyT S1 ((L.getD ((P.getD j 0).toNat) call0).ok) ((L.getD ((P.getD j 0).toNat) call0).key) ((L.getD ((P.getD j 0).toNat) call0).val)).2.1 : Int) = (1 : Int)
    ·
     refine K.xn ((applyT S1 ((L.getD ((P.getD j 0).toNat) call0).ok) ((L.getD ((P.getD j 0).toNat) call0).key) ((L.getD ((P.getD j 0).toNat) call0).val)).2.1 : Int) (1 : Int) h_51 ?_
     refine K.q [.bool false] (K.z (K.t (K.f (K.k (K.t (K.s (K.s (K.g (K.q [.pointer (some ⟨r_18, 9, none⟩)] ?_)))))))))
     refine K.a (K.QR.turn (v := .bool ((L.getD ((P.getD j 0).toNat) call0).cr)) (K.QR.ld1 (v := .bool ((L.getD ((P.getD j 0).toNat) call0).cr)) rfl rfl (by kernel_rfl) ((hS.blk 3 rfl hg_22).cell rfl)) (congrArg Value.bool hb_44)) ?_
     refine K.q [.bool false, .bool false] (K.n_ (K.n_ (K.n_ (K.n_ (K.q [.bool false, .bool false] (K.n_ (K.n_ (K.n_ (K.n_ (K.q [.bool false] (K.z (K.t (K.f (K.k ?_))))))))))))))
     refine K.t (K.s (K.g (K.q [.pointer (some ⟨r_18, 9, none⟩)] ?_)))
     refine K.a (K.QR.turn (v := .bool ((L.getD ((P.getD j 0).toNat) call0).cr)) (K.QR.ld1 (v := .bool ((L.getD ((P.getD j 0).toNat) call0).cr)) rfl rfl (by kernel_rfl) ((hS.blk 3 rfl hg_22).cell rfl)) (congrArg Value.bool hb_44)) ?_
     refine K.q [.bool true] (K.n_ (K.n_ (K.n_ (K.n_ (K.q [.bool true] (K.z (K.t (K.h (K.g ?_)))))))))
     refine K.a (K.QR.ldN [.slice q_23 (((applyT S1 ((L.getD ((P.getD j 0).toNat) call0).ok) ((L.getD ((P.getD j 0).toNat) call0).key) ((L.getD ((P.getD j 0).toNat) call0).val)).1).q.length) cq_24, .slice s_25 (((applyT S1 ((L.getD ((P.getD j 0).toNat) call0).ok) ((L.getD ((P.getD j 0).toNat) call0).key) ((L.getD ((P.getD j 0).toNat) call0).val)).1).s.length) cs_26, .slice m_27 (((applyT S1 ((L.getD ((P.getD j 0).toNat) call0).ok) ((L.getD ((P.getD j 0).toNat) call0).key) ((L.getD ((P.getD j 0).toNat) call0).val)).1).m.length) cm_28] rfl rfl (by kernel_rfl) (by kernel_rfl) (K.cells (K.cl ((hS.blk 1 rfl hg_41).cell rfl) (K.cl ((hS.blk 1 rfl hg_41).cell rfl) (K.cl ((hS.blk 1 rfl hg_41).cell rfl) K.cl0))))) ?_
     refine K.l (K.OW.gst 5 [.slice q_23 (((applyT S1 ((L.getD ((P.getD j 0).toNat) call0).ok) ((L.getD ((P.getD j 0).toNat) call0).key) ((L.getD ((P.getD j 0).toNat) call0).val)).1).q.length) cq_24, .slice s_25 (((applyT S1 ((L.getD ((P.getD j 0).toNat) call0).ok) ((L.getD ((P.getD j 0).toNat) call0).key) ((L.getD ((P.getD j 0).toNat) call0).val)).1).s.length) cs_26, .slice m_27 (((applyT S1 ((L.getD ((P.getD j 0).toNat) call0).ok) ((L.getD ((P.getD j 0).toNat) call0).key) ((L.getD ((P.getD j 0).toNat) call0).val)).1).m.length) cm_28] _ hS x_11 ?_)
     clear hS; intro w g_52 hg_53 hS
     replace hS : K.Sat w0 [g_42, g_40, g_29, g_21, g_5, g_52, gx, gp, fr] w := hS
     refine K.z ?_
     refine K.blk_normal ?_
     refine K.t (K.g (K.q [K.iv ((j : Nat) : Int)] ?_))
     refine K.a (K.QR.n64 ((((j : Nat) : Int) : Int) + (1 : Int)) ((j + 1 : Nat) : Int) (by kernel_rfl) (by omega)) ?_
     refine K.q [K.iv ((j + 1 : Nat) : Int)] (K.z (K.t ?_))
     refine ⟨_, ?_, j + 1, q_23, cq_24, s_25, cs_26, m_27, cm_28, ((applyT S1 ((L.getD ((P.getD j 0).toNat) call0).ok) ((L.getD ((P.getD j 0).toNat) call0).key) ((L.getD ((P.getD j 0).toNat) call0).val)).1), g_52, g_29, rfl, ⟨by rfl, by rfl, by rfl, by rfl, by rfl, by rfl, by rfl, trivial⟩, (by omega), (by have hN := nx_cr hb_44 h_51; rw [hrn, runN_y (by omega) (by rw [hN]), hN]), (hgd.apply), (hx_30), ((hgr.trans hg_31)), hg_53, trivial, hS.pick [4, 5, 2, 6, 7, 8]⟩
     omega
    ·
     refine K.yn ((applyT S1 ((L.getD ((P.getD j 0).toNat) call0).ok) ((L.getD ((P.getD j 0).toNat) call0).key) ((L.getD ((P.getD j 0).toNat) call0).val)).2.1 : Int) (1 : Int) h_51 ?_
     refine K.q [.bool true] (K.z (K.t (K.h (K.s (K.g ?_)))))
     refine K.a (K.QR.bd [] [.slice none 0 0, .slice none 0 0, .slice none 0 0] rfl rfl (by kernel_rfl)) ?_
     refine K.l (K.OW.gst 4 [.slice none 0 0, .slice none 0 0, .slice none 0 0] _ hS hg_6 ?_)
     clear hS; intro w g_54 hg_55 hS
     replace hS : K.Sat w0 [g_42, g_40, g_29, g_21, g_54, b2, gx, gp, fr] w := hS
     refine K.q [.bool false] (K.z (K.t (K.r (K.u ?_))))
     refine K.blk_ret ?_
     refine K.u (K.u ?_)
     refine K.blk_ret ?_
     refine K.u ?_
     refine ⟨.inr rfl, rfl, (.tuple #[.agg #[.slice none 0 0, .slice none 0 0, .slice none 0 0], .bool false]), K.resAt (rs := [.cell 6 30, .tmp 7]) [.agg #[.slice none 0 0, .slice none 0 0, .slice none 0 0], .bool false] rfl ⟨⟨_, rfl, K.lvN [.slice none 0 0, .slice none 0 0, .slice none 0 0] (by kernel_rfl) (by kernel_rfl) (K.cells (K.cl ((hS.blk 4 rfl hg_55).cell rfl) (K.cl ((hS.blk 4 rfl hg_55).cell rfl) (K.cl ((hS.blk 4 rfl hg_55).cell rfl) K.cl0))))⟩, rfl, trivial⟩, [g_29, gx, gp], ?_, hS.pick [2, 6, 7, 8]⟩
     exact ⟨_, rfl, (hgr.trans hg_31), .inl ⟨by have h9 := hrn; rw [runN_n (by omega) (nx_crn hb_44 h_51)] at h9; simpa using h9, rfl⟩⟩
  ·
   refine K.x ((((j : Nat) : Int) : Int) < (((P.length : Nat) : Int) : Int)) h_13 ?_
   refine K.z (K.t (K.f ?_))
   refine K.KW.exit ?_
   refine K.thn_exit ?_
   refine K.thn_exit ?_
   refine K.blk_hit ?_
   refine K.t (K.s (K.g ?_))
   refine K.a (K.QR.ldN [.slice q1 S1.q.length cq1, .slice s1 S1.s.length cs1, .slice m1 S1.m.length cm1] rfl rfl (by kernel_rfl) (by kernel_rfl) (K.cells (K.cl ((hS.blk 1 rfl x_11).cell rfl) (K.cl ((hS.blk 1 rfl x_11).cell rfl) (K.cl ((hS.blk 1 rfl x_11).cell rfl) K.cl0))))) ?_
   refine K.l (K.OW.gst 0 [.slice q1 S1.q.length cq1, .slice s1 S1.s.length cs1, .slice m1 S1.m.length cm1] _ hS hg_6 ?_)
   clear hS; intro w g_56 hg_57 hS
   replace hS : K.Sat w0 [g_56, b2, g1, gx, gp, fr] w := hS
   refine K.q [.bool true] (K.z (K.t (K.r ?_)))
   refine ⟨.inr rfl, rfl, (.tuple #[.agg #[.slice q1 S1.q.length cq1, .slice s1 S1.s.length cs1, .slice m1 S1.m.length cm1], .bool true]), K.resAt (rs := [.cell 6 30, .tmp 7]) [.agg #[.slice q1 S1.q.length cq1, .slice s1 S1.s.length cs1, .slice m1 S1.m.length cm1], .bool true] rfl ⟨⟨_, rfl, K.lvN [.slice q1 S1.q.length cq1, .slice s1 S1.s.length cs1, .slice m1 S1.m.length cm1] (by kernel_rfl) (by kernel_rfl) (K.cells (K.cl ((hS.blk 0 rfl hg_57).cell rfl) (K.cl ((hS.blk 0 rfl hg_57).cell rfl) (K.cl ((hS.blk 0 rfl hg_57).cell rfl) K.cl0))))⟩, rfl, trivial⟩, [g1, gx, gp], ?_, hS.pick [2, 3, 4, 5]⟩
   exact ⟨_, rfl, hgr, .inr ⟨S1, q1, cq1, s1, cs1, m1, cm1, by have h9 := hrn; rw [runN_end (by omega)] at h9; simpa using h9, hgd.le (by omega), rfl, hx1⟩⟩
end Go.Proofs.Ytnehocjmgnhhhaa
