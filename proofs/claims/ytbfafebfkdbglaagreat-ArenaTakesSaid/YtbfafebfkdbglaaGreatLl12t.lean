import Derived.Test.YtbfafebfkdbglaaGreatFr12d
import Derived.Test.YtbfafebfkdbglaaGreatKi
import Derived.Test.YtbfafebfkdbglaaGreatFlist
/- The statement ArenaTakes. -/
namespace Go.Proofs.YtbfafebfkdbglaaGreat
open Go.RowKit
set_option linter.unusedVariables false
attribute [local irreducible] K.KW K.RW K.DW K.OW K.QR K.KC
def tdStep (c : Cfg) (n : Nat) (S : TkS) (D : DM) (M : MemM) : DM := if S.part = 3 then (dStep3 c n D M).1 else D
structure TI (c : Cfg) (S : TkS) (D : DM) : Prop where
 g : TkG c S
 rel : relRec c S.rc D
 dok : D.ok
 ppc : pcOk S.pop.pc
 psl : -1 ≤ S.pop.slot
 ssl : -1 ≤ S.slot
 ad : S.part = 2 → S.adv.done = false
 ad1 : S.part = 1 → S.adv = tkAdv0 S.t
theorem TI.start {c : Cfg} (hc : cfgOk c) {t : Int} (h : isInt t) : TI c (tkInit t) (dm0 t) := ⟨TkG.init hc h, dm0_rel, dm0_ok h, .inl rfl, Int.le_refl _, Int.le_refl _, fun h => by have h : (1 : Int) = 2 := h; omega, fun _ => rfl⟩
theorem popStep_ge {c : Cfg} {n : Nat} {S : PopS} {M : MemM} (h : -1 ≤ S.slot) : -1 ≤ (popStep c n S M).1.slot := by
 unfold popStep
 split
 ·exact h
 split
 ·exact h
 split
 ·exact h
 split
 ·exact toI_ge _
 ·exact h
theorem TI.holds {c : Cfg} {S : TkS} {D : DM} (h : TI c S D) : tkHolds S = (if S.part ≥ 5 ∨ S.part = 0 ∧ S.slot ≥ 0 then S.slot else D.holds) := by
 have hp := h.g.good.part
 have hsp := h.g.good.sp
 have hs := h.ssl
 rw [h.rel.2.2.2.2.2.1]
 unfold tkHolds
 by_cases hn : S.slot = -1
 ·rw [if_neg (fun x => x hn), if_neg (by omega)]
 ·rw [if_pos hn, if_pos (by omega)]
theorem TI.step {c : Cfg} (hc : cfgOk c) {n nt : Nat} {S : TkS} {D : DM} {M : MemM} (h : TI c S D) (hM : M.good) : TI c (tkStep c n nt S M).1 (tdStep c n S D M) ∧ (tkStep c n nt S M).2.good := by
 obtain ⟨hg, hm⟩ := TkG.step (n := n) (nt := nt) hc h.g hM
 refine ⟨?_, hm⟩
 have hpp := h.g.good.part
 by_cases h14 : S.part = 1 ∨ S.part = 4
 ·rw [show tdStep c n S D M = D from if_neg (by omega)]
  have hpc := popStep_pc (c := c) (n := n) (M := M) h.ppc
  have hge := popStep_ge (c := c) (n := n) (M := M) h.psl
  rw [tkS1 h14] at hg ⊢
  generalize popStep c n S.pop M = X at hg hpc hge
  have e : tkPop S X.1 X.2.clock = ⟨S.t, 5, S.again, X.1.slot, S.gen, S.empty, X.1, S.adv, S.rc⟩ ∨ tkPop S X.1 X.2.clock = ⟨S.t, 0, S.again, -1, S.gen, X.2.clock, X.1, S.adv, S.rc⟩ ∨ tkPop S X.1 X.2.clock = ⟨S.t, 2, true, -1, S.gen, S.empty, X.1, tkAdv0 S.t, S.rc⟩ ∨ tkPop S X.1 X.2.clock = ⟨S.t, S.part, S.again, S.slot, S.gen, S.empty, X.1, S.adv, S.rc⟩ := by
   unfold tkPop
   split
   ·split
    ·exact .inl rfl
    split
    ·exact .inr (.inl rfl)
    ·exact .inr (.inr (.inl rfl))
   ·exact .inr (.inr (.inr rfl))
  rcases e with e | e | e | e
  ·rw [e] at hg ⊢
   exact ⟨hg, h.rel, h.dok, hpc, hge, hge, fun x => by have x : (5 : Int) = 2 := x; omega, fun x => by have x : (5 : Int) = 1 := x; omega⟩
  ·rw [e] at hg ⊢
   exact ⟨hg, h.rel, h.dok, hpc, hge, Int.le_refl _, fun x => by have x : (0 : Int) = 2 := x; omega, fun x => by have x : (0 : Int) = 1 := x; omega⟩
  ·rw [e] at hg ⊢
   exact ⟨hg, h.rel, h.dok, hpc, hge, Int.le_refl _, fun _ => rfl, fun x => by have x : (2 : Int) = 1 := x; omega⟩
  ·rw [e] at hg ⊢
   exact ⟨hg, h.rel, h.dok, hpc, hge, h.ssl, fun x => by have x : S.part = 2 := x; omega, h.ad1⟩
 by_cases h2 : S.part = 2
 ·rw [show tdStep c n S D M = D from if_neg (by omega)]
  rw [tkS2 h2] at hg ⊢
  generalize advStep c n S.adv M = A at hg
  by_cases hd : A.1.done = true
  ·have e : tkAdv S A.1 = ⟨S.t, 3, S.again, S.slot, S.gen, S.empty, S.pop, A.1, tkRec0 S.t⟩ := if_pos hd
   rw [e] at hg ⊢
   exact ⟨hg, by rw [← h.g.good.r0 (.inr h2)]; exact h.rel, h.dok, h.ppc, h.psl, h.ssl, fun x => by have x : (3 : Int) = 2 := x; omega, fun x => by have x : (3 : Int) = 1 := x; omega⟩
  ·have e : tkAdv S A.1 = ⟨S.t, S.part, S.again, S.slot, S.gen, S.empty, S.pop, A.1, S.rc⟩ := if_neg hd
   rw [e] at hg ⊢
   exact ⟨hg, h.rel, h.dok, h.ppc, h.psl, h.ssl, fun _ => by simpa using hd, fun x => by have x : S.part = 1 := x; omega⟩
 by_cases h3 : S.part = 3
 ·rw [show tdStep c n S D M = (dStep3 c n D M).1 from if_pos h3]
  obtain ⟨hr2, _⟩ := rel_rec (n := n) (M := M) h.g.good.rc h.rel
  have hdk := dStep3_keep (c := c) (n := n) hM h.dok
  rw [tkS3 h3] at hg ⊢
  generalize recStep c n S.rc M = R at hg hr2
  by_cases hd : R.1.done = true
  ·have e : tkRec S R.1 = ⟨S.t, 4, S.again, S.slot, S.gen, S.empty, tkPop0 S.t, S.adv, R.1⟩ := if_pos hd
   rw [e] at hg ⊢
   exact ⟨hg, hr2, hdk, .inl rfl, Int.le_refl _, h.ssl, fun x => by have x : (4 : Int) = 2 := x; omega, fun x => by have x : (4 : Int) = 1 := x; omega⟩
  ·have e : tkRec S R.1 = ⟨S.t, S.part, S.again, S.slot, S.gen, S.empty, S.pop, S.adv, R.1⟩ := if_neg hd
   rw [e] at hg ⊢
   exact ⟨hg, hr2, hdk, h.ppc, h.psl, h.ssl, fun x => by have x : S.part = 2 := x; omega, fun x => by have x : S.part = 1 := x; omega⟩
 rw [show tdStep c n S D M = D from if_neg h3]
 have to : ∀ (k g : Int), ¬ k = 1 → ¬ k = 2 → TkG c ⟨S.t, k, S.again, S.slot, g, S.empty, S.pop, S.adv, S.rc⟩ → TI c ⟨S.t, k, S.again, S.slot, g, S.empty, S.pop, S.adv, S.rc⟩ D := fun k g h1 h2 hg => ⟨hg, h.rel, h.dok, h.ppc, h.psl, h.ssl, fun x => absurd x h2, fun x => absurd x h1⟩
 by_cases h0 : S.part = 0
 ·rw [tkS0 h0]; exact h
 by_cases h5 : S.part = 5
 ·rw [tkS5 h5] at hg ⊢; exact to 6 _ (by omega) (by omega) hg
 by_cases h6 : S.part = 6
 ·rw [tkS6 h6] at hg ⊢; exact to 7 _ (by omega) (by omega) hg
 by_cases h7 : S.part = 7
 ·rw [tkS7 h7] at hg ⊢; exact to 8 _ (by omega) (by omega) hg
 by_cases h8 : S.part = 8
 ·rw [tkS8 h8] at hg ⊢; exact to 9 _ (by omega) (by omega) hg
 ·rw [tkS9 (by omega)] at hg ⊢; exact to 0 _ (by omega) (by omega) hg
theorem rtStep_ok (w0 : World) (r pm q n t : Nat) (c : Cfg) (hc : cfgOk c) (S : TkS) (D : DM) (M : MemM) (gp l : K.Cs) (hgp : gp = rtkPt r c S D) (x : RMemAt l pm q n t M) (hM : M.good) (h : TI c S D) : K.GC Tryz.prog w0 44 #[K.pa r, K.pa pm] [gp, l] (fun v post => ∃ gp' l', v = .tuple #[] ∧ post = [gp', l'] ∧ gp' = rtkPt r c (tkStep c n t S M).1 (tdStep c n S D M) ∧ RMemAt l' pm q n t (tkStep c n t S M).2) := by
 have hp := h.g.good.part
 by_cases h14 : S.part = 1 ∨ S.part = 4
 ·rw [show tdStep c n S D M = D from if_neg (by omega)]; exact rtSt1_ok w0 r pm q n t c hc S D M gp l hgp x hM h.g.good h14 h.ppc (fun _ => popStep_ge h.psl) h.ad1
 by_cases h2 : S.part = 2
 ·rw [show tdStep c n S D M = D from if_neg (by omega)]; exact rtSt2_ok w0 r pm q n t c hc S D M gp l hgp x hM h.g.good h2 (h.ad h2)
 by_cases h3 : S.part = 3
 ·rw [show tdStep c n S D M = (dStep3 c n D M).1 from if_pos h3]; exact rtSt3_ok w0 r pm q n t c hc S D M gp l hgp x hM h.g.good h3 h.rel (rec_dgood hc h.g.good.rc h.rel h.dok)
 rw [show tdStep c n S D M = D from if_neg h3]
 by_cases h0 : S.part = 0
 ·exact rtSt0_ok w0 r pm q n t c hc S D M gp l hgp x hM h.g.good h0
 by_cases h5 : S.part = 5
 ·exact rtSt5_ok w0 r pm q n t c hc S D M gp l hgp x hM h.g.good h5
 by_cases h6 : S.part = 6
 ·exact rtSt6_ok w0 r pm q n t c hc S D M gp l hgp x hM h.g.good h6
 by_cases h7 : S.part = 7
 ·exact rtSt7_ok w0 r pm q n t c hc S D M gp l hgp x hM h.g.good h7
 by_cases h8 : S.part = 8
 ·exact rtSt8_ok w0 r pm q n t c hc S D M gp l hgp x hM h.g.good h8
 ·exact rtSt9_ok w0 r pm q n t c hc S D M gp l hgp x hM h.g.good (by omega)
theorem tkSlotE2_ok (w0 : World) (p b : Nat) (S : TkS) (g : K.Cs) (h : TkEl p b S g) (s : Int) (e : (if S.done = true then S.slot else -1) = s) : K.GC Tryz.prog w0 34 #[K.pa p] [g] (fun v post => v = K.iv s ∧ post = [g]) := by
 have := tkSlotE_ok w0 p b S g h
 rwa [e] at this
set_option maxHeartbeats 1000000 in
set_option maxRecDepth 100000 in
theorem l12takes_ok (w0 : World) (c : Cfg) (pa : Option Addr) (cp : Nat) (ps : List PutM) (hg : ∀ j, j < ps.length → isInt (ps.getD j pu0).at_ ∧ isW (ps.getD j pu0).w) (hxp : K.RowE w0 pa ps.length 2 (fun i => cPut (ps.getD i pu0))) (tt : Int) (htt : isInt tt) (b : Option Addr) (cap2 : Nat) (ls : List PokeM) (hk : ∀ j, j < ls.length → (ls.getD j pk0).act.good ∧ isW (ls.getD j pk0).act.w) (hl : ls.length ≤ 9223372036854775807) (hy : K.RowE w0 b ls.length 6 (fun i => cPoke (ls.getD i pk0))) :
  K.GC Tryz.prog w0 6 #[.agg #[K.iv c.th, K.iv c.sl, K.iv c.lo, K.iv c.bu, .slice pa ps.length cp], K.iv tt, .slice b ls.length cap2] [] (fun v post => v = .bool true) := by
 refine K.GC.mk (n := 122) Tryz.func6 rfl rfl [.agg #[K.iv c.th, K.iv c.sl, K.iv c.lo, K.iv c.bu, .slice pa ps.length cp], K.iv tt, .slice b ls.length cap2] rfl rfl ?_
 intro fr w hS
 replace hS : K.Sat w0 [fr] w := hS
 refine K.s (K.g ?_)
 refine K.l (K.OW.gnew 38 [K.iv c.th, K.iv c.sl, K.iv c.lo, K.iv c.bu, .slice pa ps.length cp] hS ?_)
 clear hS; intro w r_1 g_2 hg_3 hS
 refine K.q [.bool false] (K.z (K.t (K.s (K.g ?_))))
 refine K.a (K.QR.ldN [K.iv c.th, K.iv c.sl, K.iv c.lo, K.iv c.bu, .slice pa ps.length cp] rfl rfl (by kernel_rfl) (by kernel_rfl) (K.cells (K.cl ((hS.blk 0 rfl hg_3).cell rfl) (K.cl ((hS.blk 0 rfl hg_3).cell rfl) (K.cl ((hS.blk 0 rfl hg_3).cell rfl) (K.cl ((hS.blk 0 rfl hg_3).cell rfl) (K.cl ((hS.blk 0 rfl hg_3).cell rfl) K.cl0))))))) ?_
 refine K.l (K.OW.gcall hS [52] [0, 1] [.agg #[K.iv c.th, K.iv c.sl, K.iv c.lo, K.iv c.bu, .slice pa ps.length cp]] (lay_ok _ c _ _ ps (fun j hj => (hg j hj).1) _ (fun w h => hxp.no h.chg)) ?_)
 clear hS; rintro _ _ w (⟨b_4, p_5, q_6, r_7, u_8, _, _, gl_9, l_10, m_11, rfl, rfl, hl_12, x_13, y_14, rfl, rfl, hf_15, hp_16⟩ | ⟨rfl, rfl, h_17⟩) hS
 ·
  replace hS : K.Sat w0 [gl_9, l_10, m_11, g_2, fr] w := hS.of (by simp [K.pick, K.nth])
  have hc : cfgOk c := hf_15.1
  obtain ⟨hfa, hfb⟩ : (((1 ≤ c.th ∧ c.th ≤ 64) ∧ (1 ≤ c.sl ∧ c.sl ≤ 65536) ∧ (1 ≤ c.lo ∧ c.lo ≤ 64) ∧ (1 ≤ c.bu ∧ c.bu ≤ 64)) ∧ (c.th ≤ 6 ∧ c.sl ≤ 30 ∧ c.lo ≤ 8 ∧ c.bu ≤ 8)) := (by have h := hf_15; unfold fewC cfgOk at h; exact h)
  have hM : (groundM ((lns c).toNat) (c.th.toNat) (2 + c.th + c.sl).toNat ps).good := ground_good (fun j hj => (hg j hj).2)
  have hP : (((groundM ((lns c).toNat) (c.th.toNat) (2 + c.th + c.sl).toNat ps).pass.length : Nat) : Int) = 2 + c.th + c.sl := by rw [ground_pass]; omega
  refine K.q [.tuple #[K.pa b_4, K.pa p_5, K.pa r_7, .bool true], K.pa b_4, K.pa p_5, K.pa r_7, .bool true, K.pa b_4, K.pa p_5, K.pa r_7, .bool true] (K.z (K.t (K.s (K.s (K.g (K.q [.bool true, .bool false, .bool false, .slice b ls.length cap2] ?_))))))
  refine K.a (K.QR.len (P := Tryz.prog) rfl rfl Tryz.underlying54) ?_
  by_cases h_18 : (((ls.length : Nat) : Int) : Int) > (80 : Int)
  ·
   refine K.y ((((ls.length : Nat) : Int) : Int) > (80 : Int)) h_18 ?_
   refine K.q [.bool true] (K.z (K.t (K.h (K.s (K.g ?_)))))
   refine K.l (K.OW.gcall hS [] [0, 1, 2, 3, 4] [] (awake12_ok _) ?_)
   clear hS; rintro _ _ w ⟨rfl, rfl⟩ hS
   replace hS : K.Sat w0 [gl_9, l_10, m_11, g_2, fr] w := hS
   refine K.q [.bool true] (K.z (K.t (K.r (K.u ?_))))
   refine ⟨.inr rfl, rfl, (.bool true), K.res1 rfl rfl, [], ?_, hS.pick [4]⟩
   exact rfl
  ·
   refine K.x ((((ls.length : Nat) : Int) : Int) > (80 : Int)) h_18 ?_
   refine K.q [.bool false] (K.z (K.t (K.f (K.k (K.t (K.s ?_))))))
   refine K.KW.gdrawn [3] hS (by kernel_rfl) ?_
   clear hS; intro w hS
   refine K.p 0 rfl (K.pa b_4) (hS.pick [3]) ?_
   refine K.p 1 rfl (K.iv tt) (hS.pick [3]) ?_
   refine K.p 3 rfl (K.pa r_1) (hS.pick [3]) ?_
   refine K.m 4 rfl (fun w hS => K.QR.ldN [K.iv c.th, K.iv c.sl, K.iv c.lo, K.iv c.bu] rfl rfl (by kernel_rfl) (by kernel_rfl) (K.cells (K.cl ((hS.blk 0 rfl hg_3).cell rfl) (K.cl ((hS.blk 0 rfl hg_3).cell rfl) (K.cl ((hS.blk 0 rfl hg_3).cell rfl) (K.cl ((hS.blk 0 rfl hg_3).cell rfl) K.cl0)))))) (hS.pick [3]) ?_
   refine K.p 5 rfl (K.iv tt) (hS.pick [3]) ?_
   refine K.DW.l 2 rfl (by kernel_rfl) rfl (K.OW.gcall hS [] [0, 1, 2, 3, 4] [K.pa b_4, K.iv tt] (newtkE_ok _ b_4 tt (by omega)) ?_)
   clear hS; rintro _ _ w ⟨p_19, g_20, rfl, rfl, h_21⟩ hS
   replace hS : K.Sat w0 [g_20, gl_9, l_10, m_11, g_2, fr] w := hS
   refine ⟨.inl (hS.pick [4]), ?_⟩
   refine K.DW.l 6 rfl (by kernel_rfl) rfl (K.OW.gcall hS [] [0, 1, 2, 3, 4, 5] [.agg #[K.iv c.th, K.iv c.sl, K.iv c.lo, K.iv c.bu], K.iv tt] (rnewtk_ok _ c tt) ?_)
   clear hS; rintro _ _ w ⟨r_22, g_23, rfl, rfl, h_24⟩ hS
   replace hS : K.Sat w0 [g_23, g_20, gl_9, l_10, m_11, g_2, fr] w := hS
   refine ⟨.inl (hS.pick [5]), ?_⟩
   refine K.b 7 rfl (K.pa p_19) (hS.pick [5]) ?_
   refine K.b 8 rfl (K.pa r_22) (hS.pick [5]) ?_
   refine K.DW.done (by kernel_rfl) ?_
   refine K.t (K.s (K.s (K.g (K.q [K.iv 0] (K.z (K.t ?_))))))
   refine K.KW.block ?_
   refine K.KW.loop (fun m_ F_ w_ => ∃ (j : Nat) (S : TkS) (D : DM) (M : MemM) (g1 : K.Cs) (h1 : K.Cs) (l1 : K.Cs) (m1 : K.Cs), m_ = ls.length - j ∧ K.Sl F_ [(0, .agg #[K.iv c.th, K.iv c.sl, K.iv c.lo, K.iv c.bu, .slice pa ps.length cp]), (1, K.iv tt), (2, .slice b ls.length cap2), (8, K.pa p_5), (9, K.pa r_7), (11, K.pa p_19), (12, K.pa r_22), (13, K.iv ((j : Nat) : Int)), (122, undef)] ∧ j ≤ ls.length ∧ TI c S D ∧ M.good ∧ TkEl p_19 b_4 S g1 ∧ h1 = [K.pt r_22 95 [K.iv c.th, K.iv c.sl, K.iv c.lo, K.iv c.bu, K.iv S.t, K.iv S.part, K.iv S.slot, .int .u64 S.gen, K.iv S.empty, K.iv c.th, K.iv c.sl, K.iv c.lo, K.iv c.bu, K.iv S.pop.t, K.iv (lineOf S.pop.pc), .int .u64 S.pop.top, .int .u64 S.pop.next, K.iv S.pop.slot, K.iv c.th, K.iv c.sl, K.iv c.lo, K.iv c.bu, K.iv S.adv.t, K.iv 2, K.iv (lineAd S.adv.done S.adv.pc S.adv.next), .int .u64 S.adv.now, .bool S.adv.moved, K.iv c.th, K.iv c.sl, K.iv c.lo, K.iv c.bu, K.iv D.t, K.iv D.kind, K.iv D.line, K.iv D.n, K.iv D.slot, K.iv D.place, .int .u64 D.now, K.iv D.holds, K.iv D.count, K.iv D.pc.th, K.iv D.pc.sl, K.iv D.pc.lo, K.iv D.pc.bu, K.iv D.push.t, K.iv D.push.line, .int .u64 D.push.top, K.iv D.push.slot]] ∧ MemAt l1 p_5 q_6 ((lns c).toNat) (c.th.toNat) M ∧ RMemAt m1 r_7 u_8 ((lns c).toNat) (c.th.toNat) M ∧ K.Sat w0 [h1, g1, gl_9, l1, m1, g_2, fr] w_) ((fun (j : Nat) (S : TkS) (D : DM) (M : MemM) => ls.length - j) 0 (tkInit tt) (dm0 tt) (groundM ((lns c).toNat) (c.th.toNat) (2 + c.th + c.sl).toNat ps)) ?_ ?_
   ·
    exact ⟨0, (tkInit tt), (dm0 tt), (groundM ((lns c).toNat) (c.th.toNat) (2 + c.th + c.sl).toNat ps), g_20, g_23, l_10, m_11, rfl, ⟨by rfl, by rfl, by rfl, by rfl, by rfl, by rfl, by rfl, by rfl, by rfl, trivial⟩, (by omega), (TI.start (by assumption) htt), (hM), h_21, h_24, x_13, y_14, hS.pick [0, 1, 2, 3, 4, 5, 6]⟩
   ·
    clear hS
    intro m_25 F_26 w hI
    obtain ⟨j, S, D, M, g1, h1, l1, m1, rfl, sl_27, p_28, hTI, p_29, x_30, x_31, x_32, x_33, hS⟩ := hI
    rw [← K.Sl.puts sl_27]; clear sl_27
    refine K.s (K.s (K.g (K.q [K.iv ((j : Nat) : Int), .slice b ls.length cap2] ?_)))
    refine K.a (K.QR.len (P := Tryz.prog) rfl rfl Tryz.underlying54) ?_
    by_cases h_34 : (((j : Nat) : Int) : Int) < (((ls.length : Nat) : Int) : Int)
    ·
     refine K.y ((((j : Nat) : Int) : Int) < (((ls.length : Nat) : Int) : Int)) h_34 ?_
     refine K.z (K.t (K.h (K.k (K.t (K.s ?_)))))
     refine K.KW.block ?_
     refine K.s (K.s ?_)
     obtain ⟨b_35, of_36, rfl, _⟩ := hy.at_ (by omega)
     refine K.g (K.q [.slice (some ⟨b_35, of_36, none⟩) ls.length cap2, K.iv ((j : Nat) : Int)] ?_)
     refine K.a (K.QR.ix (of_36 + j * 6) 6 rfl rfl rfl Tryz.underlying54 (by kernel_rfl) (by omega) (by first | (simp; done) | omega | (simp; omega))) ?_
     refine K.q [.pointer (some ⟨b_35, of_36 + j * 6, none⟩)] ?_
     refine K.d (.bool ((ls.getD j pk0).step)) ((hy.no hS.chg).ld j (by omega) 0 _ rfl) ?_
     cases hb_37 : (ls.getD j pk0).step
     ·
      refine K.z (K.t (K.f (K.s (K.g (K.q [K.pa p_5, .slice (some ⟨b_35, of_36, none⟩) ls.length cap2, K.iv ((j : Nat) : Int)] ?_)))))
      refine K.a (K.QR.ix (of_36 + j * 6) 6 rfl rfl rfl Tryz.underlying54 (by kernel_rfl) (by omega) (by first | (simp; done) | omega | (simp; omega))) ?_
      refine K.q [.pointer (some ⟨b_35, of_36 + j * 6 + 1, none⟩)] ?_
      refine K.a (K.QR.ldN [K.iv ((ls.getD j pk0).act.kind), K.iv ((ls.getD j pk0).act.thread), K.iv ((ls.getD j pk0).act.at_), .int .u64 ((ls.getD j pk0).act.old), .int .u64 ((ls.getD j pk0).act.w)] rfl rfl (by kernel_rfl) (by kernel_rfl) (K.cells (K.cl ((hy.no hS.chg).ld j (by omega) 1 _ rfl) (K.cl ((hy.no hS.chg).ld j (by omega) 2 _ rfl) (K.cl ((hy.no hS.chg).ld j (by omega) 3 _ rfl) (K.cl ((hy.no hS.chg).ld j (by omega) 4 _ rfl) (K.cl ((hy.no hS.chg).ld j (by omega) 5 _ rfl) K.cl0))))))) ?_
      refine K.l (K.OW.gcall hS [3] [0, 1, 2, 4, 5, 6] [K.pa p_5, .agg #[K.iv ((ls.getD j pk0).act.kind), K.iv ((ls.getD j pk0).act.thread), K.iv ((ls.getD j pk0).act.at_), .int .u64 ((ls.getD j pk0).act.old), .int .u64 ((ls.getD j pk0).act.w)]] (do7_ok _ _ _ _ _ _ _ x_32 (ls.getD j pk0).act (hk j (by omega)).1) ?_)
      clear hS; rintro _ _ w ⟨l_38, rfl, rfl, x_39⟩ hS
      replace hS : K.Sat w0 [l_38, h1, g1, gl_9, m1, g_2, fr] w := hS
      have hM_40 : (act7 M ((lns c).toNat) (c.th.toNat) (ls.getD j pk0).act).good := act7_good (by assumption) (hk j (by omega)).2
      refine K.z (K.t (K.g (K.q [K.pa r_7, .slice (some ⟨b_35, of_36, none⟩) ls.length cap2, K.iv ((j : Nat) : Int)] ?_)))
      refine K.a (K.QR.ix (of_36 + j * 6) 6 rfl rfl rfl Tryz.underlying54 (by kernel_rfl) (by omega) (by first | (simp; done) | omega | (simp; omega))) ?_
      refine K.q [.pointer (some ⟨b_35, of_36 + j * 6 + 1, none⟩)] ?_
      refine K.a (K.QR.ldN [K.iv ((ls.getD j pk0).act.kind), K.iv ((ls.getD j pk0).act.thread), K.iv ((ls.getD j pk0).act.at_), .int .u64 ((ls.getD j pk0).act.old), .int .u64 ((ls.getD j pk0).act.w)] rfl rfl (by kernel_rfl) (by kernel_rfl) (K.cells (K.cl ((hy.no hS.chg).ld j (by omega) 1 _ rfl) (K.cl ((hy.no hS.chg).ld j (by omega) 2 _ rfl) (K.cl ((hy.no hS.chg).ld j (by omega) 3 _ rfl) (K.cl ((hy.no hS.chg).ld j (by omega) 4 _ rfl) (K.cl ((hy.no hS.chg).ld j (by omega) 5 _ rfl) K.cl0))))))) ?_
      refine K.l (K.OW.gcall hS [4] [0, 1, 2, 3, 5, 6] [K.pa r_7, .agg #[K.iv ((ls.getD j pk0).act.kind), K.iv ((ls.getD j pk0).act.thread), K.iv ((ls.getD j pk0).act.at_), .int .u64 ((ls.getD j pk0).act.old), .int .u64 ((ls.getD j pk0).act.w)]] (must7_ok _ _ _ _ _ _ _ x_33 (ls.getD j pk0).act (hk j (by omega)).1) ?_)
      clear hS; rintro _ _ w ⟨l_41, rfl, rfl, x_42⟩ hS
      replace hS : K.Sat w0 [l_41, l_38, h1, g1, gl_9, g_2, fr] w := hS
      refine K.z (K.t (K.s (K.g (K.q [K.iv (-1)] (K.z (K.t (K.s (K.s ?_))))))))
      cases hb_43 : S.done
      ·
       refine K.g (K.q [K.pa r_22, K.pa r_22, .pointer (some ⟨r_22, 5, none⟩)] ?_)
       refine K.d (K.iv S.part) ((hS.blk 2 rfl x_31).cell rfl) ?_
       refine K.xe (S.part : Int) (0 : Int) (of_decide_eq_false hb_43) ?_
       refine K.z (K.t (K.f (K.k (K.t (K.s ?_)))))
       refine K.KW.gdrawn [2] hS (by kernel_rfl) ?_
       clear hS; intro w hS
       refine K.p 0 rfl (K.pa p_5) (hS.pick [2]) ?_
       refine K.b 1 rfl (K.pa r_7) (hS.pick [2]) ?_
       refine K.DW.l 2 rfl (by kernel_rfl) rfl (K.OW.gcall hS [1, 0] [2, 3, 4, 5, 6] [K.pa p_5, K.pa r_7] (same7_ok _ _ _ _ _ _ _ _ _ _ x_39 x_42) ?_)
       clear hS; rintro _ _ w ⟨rfl, rfl⟩ hS
       replace hS : K.Sat w0 [l_38, l_41, h1, g1, gl_9, g_2, fr] w := hS
       refine ⟨.inl (hS.pick [2]), ?_⟩
       refine K.b 3 rfl (.bool false) (hS.pick [2]) ?_
       refine K.b 4 rfl (.bool false) (hS.pick [2]) ?_
       refine K.p 5 rfl (K.pa p_19) (hS.pick [2]) ?_
       refine K.p 7 rfl (K.pa r_22) (hS.pick [2]) ?_
       refine K.p 8 rfl (K.pa r_22) (hS.pick [2]) ?_
       refine K.p 9 rfl (.pointer (some ⟨r_22, 5, none⟩)) (hS.pick [2]) ?_
       refine K.o_ 10 rfl (K.iv S.part) (fun w hS => ((hS.blk 0 rfl x_31).cell rfl)) (hS.pick [2]) ?_
       refine K.m 11 rfl (fun w hS => K.QR.nice (v := .bool ((S.part : Int) == (0 : Int))) (by kernel_rfl) (congrArg Value.bool (beq_eq_false_iff_ne.2 (of_decide_eq_false hb_43)))) (hS.pick [2]) ?_
       refine K.DW.l 6 rfl (by kernel_rfl) (by kernel_rfl) (K.OW.gcall hS [3] [0, 1, 2, 4, 5, 6] [K.pa p_19] (tkDoneE_ok _ _ _ S _ x_30) ?_)
       clear hS; rintro _ _ w ⟨rfl, rfl⟩ hS
       replace hS : K.Sat w0 [g1, l_38, l_41, h1, gl_9, g_2, fr] w := hS
       refine ⟨.inl (hS.pick [3]), ?_⟩
       cases hb_44 : S.done
       ·
        refine K.b 12 rfl (.bool false) (hS.pick [3]) ?_
        refine K.b 13 rfl (.bool false) (hS.pick [3]) ?_
        refine K.b 14 rfl (.bool false) (hS.pick [3]) ?_
        refine K.p 15 rfl (K.pa p_19) (hS.pick [3]) ?_
        refine K.p 17 rfl (K.iv (-1)) (hS.pick [3]) ?_
        refine K.DW.l 16 rfl (by kernel_rfl) (by kernel_rfl) (K.OW.gcall hS [0] [1, 2, 3, 4, 5, 6] [K.pa p_19] (tkSlotE2_ok _ _ _ S _ x_30 ((-1) : Int) (if_neg (by rw [hb_44]; decide))) ?_)
        clear hS; rintro _ _ w ⟨rfl, rfl⟩ hS
        replace hS : K.Sat w0 [g1, l_38, l_41, h1, gl_9, g_2, fr] w := hS
        refine ⟨.inl (hS.pick [3]), ?_⟩
        refine K.b 18 rfl (.bool false) (hS.pick [3]) ?_
        refine K.b 19 rfl (.bool false) (hS.pick [3]) ?_
        refine K.b 20 rfl (.bool false) (hS.pick [3]) ?_
        refine K.p 21 rfl (K.pa p_19) (hS.pick [3]) ?_
        refine K.p 23 rfl (K.pa r_22) (hS.pick [3]) ?_
        refine K.DW.l 22 rfl (by kernel_rfl) (by kernel_rfl) (K.OW.gcall hS [0] [1, 2, 3, 4, 5, 6] [K.pa p_19] (tkHoldsE_ok _ _ _ c S _ x_30 hTI.g.good) ?_)
        clear hS; rintro _ _ w ⟨rfl, rfl⟩ hS
        replace hS : K.Sat w0 [g1, l_38, l_41, h1, gl_9, g_2, fr] w := hS
        refine ⟨.inl (hS.pick [3]), ?_⟩
        refine K.DW.l 24 rfl (by kernel_rfl) (by kernel_rfl) (K.OW.gcall hS [3] [0, 1, 2, 4, 5, 6] [K.pa r_22] (rtHolds_ok _ _ c S D _ x_31) ?_)
        clear hS; rintro _ _ w ⟨rfl, rfl⟩ hS
        replace hS : K.Sat w0 [h1, g1, l_38, l_41, gl_9, g_2, fr] w := hS
        refine ⟨.inl (hS.pick [0]), ?_⟩
        refine K.c 25 rfl (K.QR.nice (v := .bool (((tkHolds S) : Int) != ((if S.part ≥ 5 ∨ S.part = 0 ∧ S.slot ≥ 0 then S.slot else D.holds) : Int))) (by kernel_rfl) (congrArg Value.bool (bne_eq_false_iff_eq.2 (hTI.holds)))) (hS.pick [0]) ?_
        refine K.b 26 rfl (.bool false) (hS.pick [0]) ?_
        refine K.b 27 rfl (.bool false) (hS.pick [0]) ?_
        refine K.p 28 rfl (K.pa p_19) (hS.pick [0]) ?_
        refine K.p 30 rfl (K.pa r_22) (hS.pick [0]) ?_
        refine K.p 31 rfl (K.pa r_22) (hS.pick [0]) ?_
        refine K.p 32 rfl (.pointer (some ⟨r_22, 8, none⟩)) (hS.pick [0]) ?_
        refine K.o_ 33 rfl (K.iv S.empty) (fun w hS => ((hS.blk 0 rfl x_31).cell rfl)) (hS.pick [0]) ?_
        refine K.DW.l 29 rfl (by kernel_rfl) (by kernel_rfl) (K.OW.gcall hS [1] [0, 2, 3, 4, 5, 6] [K.pa p_19] (tkEmptyE_ok _ _ _ S _ x_30) ?_)
        clear hS; rintro _ _ w ⟨rfl, rfl⟩ hS
        replace hS : K.Sat w0 [g1, h1, l_38, l_41, gl_9, g_2, fr] w := hS
        refine ⟨.inl (hS.pick [1]), ?_⟩
        refine K.c 34 rfl (K.QR.nice (v := .bool ((S.empty : Int) != (S.empty : Int))) (by kernel_rfl) (congrArg Value.bool (bne_eq_false_iff_eq.2 (rfl)))) (hS.pick [1]) ?_
        refine K.b 35 rfl (.bool false) (hS.pick [1]) ?_
        refine K.DW.done (by kernel_rfl) ?_
        refine K.t (K.f (K.k ?_))
        refine K.blk_normal ?_
        refine K.t (K.g (K.q [K.iv ((j : Nat) : Int)] ?_))
        refine K.a (K.QR.n64 ((((j : Nat) : Int) : Int) + (1 : Int)) ((j + 1 : Nat) : Int) (by kernel_rfl) (by omega)) ?_
        refine K.q [K.iv ((j + 1 : Nat) : Int)] (K.z (K.t ?_))
        refine ⟨_, ?_, j + 1, S, D, (act7 M ((lns c).toNat) (c.th.toNat) (ls.getD j pk0).act), g1, h1, l_38, l_41, rfl, ⟨by rfl, by rfl, by rfl, by rfl, by rfl, by rfl, by rfl, by rfl, by rfl, trivial⟩, (by omega), (hTI), (by assumption), x_30, x_31, x_39, x_42, hS.pick [1, 0, 4, 2, 3, 5, 6]⟩
        omega
       ·cases (hb_44.symm.trans (show S.done = false from hb_43))
      ·
       refine K.g (K.q [K.pa r_22, K.pa r_22, .pointer (some ⟨r_22, 5, none⟩)] ?_)
       refine K.d (K.iv S.part) ((hS.blk 2 rfl x_31).cell rfl) ?_
       refine K.ye (S.part : Int) (0 : Int) (of_decide_eq_true hb_43) ?_
       refine K.z (K.t (K.h (K.g (K.q [K.pa r_22, K.pa r_22, .pointer (some ⟨r_22, 6, none⟩)] ?_))))
       refine K.d (K.iv S.slot) ((hS.blk 2 rfl x_31).cell rfl) ?_
       refine K.q [K.iv S.slot] (K.z (K.t (K.s ?_)))
       refine K.KW.gdrawn [2] hS (by kernel_rfl) ?_
       clear hS; intro w hS
       refine K.p 0 rfl (K.pa p_5) (hS.pick [2]) ?_
       refine K.b 1 rfl (K.pa r_7) (hS.pick [2]) ?_
       refine K.DW.l 2 rfl (by kernel_rfl) rfl (K.OW.gcall hS [1, 0] [2, 3, 4, 5, 6] [K.pa p_5, K.pa r_7] (same7_ok _ _ _ _ _ _ _ _ _ _ x_39 x_42) ?_)
       clear hS; rintro _ _ w ⟨rfl, rfl⟩ hS
       replace hS : K.Sat w0 [l_38, l_41, h1, g1, gl_9, g_2, fr] w := hS
       refine ⟨.inl (hS.pick [2]), ?_⟩
       refine K.b 3 rfl (.bool false) (hS.pick [2]) ?_
       refine K.b 4 rfl (.bool false) (hS.pick [2]) ?_
       refine K.p 5 rfl (K.pa p_19) (hS.pick [2]) ?_
       refine K.p 7 rfl (K.pa r_22) (hS.pick [2]) ?_
       refine K.p 8 rfl (K.pa r_22) (hS.pick [2]) ?_
       refine K.p 9 rfl (.pointer (some ⟨r_22, 5, none⟩)) (hS.pick [2]) ?_
       refine K.o_ 10 rfl (K.iv S.part) (fun w hS => ((hS.blk 0 rfl x_31).cell rfl)) (hS.pick [2]) ?_
       refine K.m 11 rfl (fun w hS => K.QR.nice (v := .bool ((S.part : Int) == (0 : Int))) (by kernel_rfl) (congrArg Value.bool (beq_iff_eq.2 (of_decide_eq_true hb_43)))) (hS.pick [2]) ?_
       refine K.DW.l 6 rfl (by kernel_rfl) (by kernel_rfl) (K.OW.gcall hS [3] [0, 1, 2, 4, 5, 6] [K.pa p_19] (tkDoneE_ok _ _ _ S _ x_30) ?_)
       clear hS; rintro _ _ w ⟨rfl, rfl⟩ hS
       replace hS : K.Sat w0 [g1, l_38, l_41, h1, gl_9, g_2, fr] w := hS
       refine ⟨.inl (hS.pick [3]), ?_⟩
       cases hb_45 : S.done
       ·cases (hb_45.symm.trans (show S.done = true from hb_43))
       ·
        refine K.b 12 rfl (.bool false) (hS.pick [3]) ?_
        refine K.b 13 rfl (.bool false) (hS.pick [3]) ?_
        refine K.b 14 rfl (.bool false) (hS.pick [3]) ?_
        refine K.p 15 rfl (K.pa p_19) (hS.pick [3]) ?_
        refine K.p 17 rfl (K.iv S.slot) (hS.pick [3]) ?_
        refine K.DW.l 16 rfl (by kernel_rfl) (by kernel_rfl) (K.OW.gcall hS [0] [1, 2, 3, 4, 5, 6] [K.pa p_19] (tkSlotE2_ok _ _ _ S _ x_30 S.slot (if_pos hb_45)) ?_)
        clear hS; rintro _ _ w ⟨rfl, rfl⟩ hS
        replace hS : K.Sat w0 [g1, l_38, l_41, h1, gl_9, g_2, fr] w := hS
        refine ⟨.inl (hS.pick [3]), ?_⟩
        refine K.c 18 rfl (K.QR.nice (v := .bool ((S.slot : Int) != (S.slot : Int))) (by kernel_rfl) (congrArg Value.bool (bne_eq_false_iff_eq.2 (rfl)))) (hS.pick [3]) ?_
        refine K.b 19 rfl (.bool false) (hS.pick [3]) ?_
        refine K.b 20 rfl (.bool false) (hS.pick [3]) ?_
        refine K.p 21 rfl (K.pa p_19) (hS.pick [3]) ?_
        refine K.p 23 rfl (K.pa r_22) (hS.pick [3]) ?_
        refine K.DW.l 22 rfl (by kernel_rfl) (by kernel_rfl) (K.OW.gcall hS [0] [1, 2, 3, 4, 5, 6] [K.pa p_19] (tkHoldsE_ok _ _ _ c S _ x_30 hTI.g.good) ?_)
        clear hS; rintro _ _ w ⟨rfl, rfl⟩ hS
        replace hS : K.Sat w0 [g1, l_38, l_41, h1, gl_9, g_2, fr] w := hS
        refine ⟨.inl (hS.pick [3]), ?_⟩
        refine K.DW.l 24 rfl (by kernel_rfl) (by kernel_rfl) (K.OW.gcall hS [3] [0, 1, 2, 4, 5, 6] [K.pa r_22] (rtHolds_ok _ _ c S D _ x_31) ?_)
        clear hS; rintro _ _ w ⟨rfl, rfl⟩ hS
        replace hS : K.Sat w0 [h1, g1, l_38, l_41, gl_9, g_2, fr] w := hS
        refine ⟨.inl (hS.pick [0]), ?_⟩
        refine K.c 25 rfl (K.QR.nice (v := .bool (((tkHolds S) : Int) != ((if S.part ≥ 5 ∨ S.part = 0 ∧ S.slot ≥ 0 then S.slot else D.holds) : Int))) (by kernel_rfl) (congrArg Value.bool (bne_eq_false_iff_eq.2 (hTI.holds)))) (hS.pick [0]) ?_
        refine K.b 26 rfl (.bool false) (hS.pick [0]) ?_
        refine K.b 27 rfl (.bool false) (hS.pick [0]) ?_
        refine K.p 28 rfl (K.pa p_19) (hS.pick [0]) ?_
        refine K.p 30 rfl (K.pa r_22) (hS.pick [0]) ?_
        refine K.p 31 rfl (K.pa r_22) (hS.pick [0]) ?_
        refine K.p 32 rfl (.pointer (some ⟨r_22, 8, none⟩)) (hS.pick [0]) ?_
        refine K.o_ 33 rfl (K.iv S.empty) (fun w hS => ((hS.blk 0 rfl x_31).cell rfl)) (hS.pick [0]) ?_
        refine K.DW.l 29 rfl (by kernel_rfl) (by kernel_rfl) (K.OW.gcall hS [1] [0, 2, 3, 4, 5, 6] [K.pa p_19] (tkEmptyE_ok _ _ _ S _ x_30) ?_)
        clear hS; rintro _ _ w ⟨rfl, rfl⟩ hS
        replace hS : K.Sat w0 [g1, h1, l_38, l_41, gl_9, g_2, fr] w := hS
        refine ⟨.inl (hS.pick [1]), ?_⟩
        refine K.c 34 rfl (K.QR.nice (v := .bool ((S.empty : Int) != (S.empty : Int))) (by kernel_rfl) (congrArg Value.bool (bne_eq_false_iff_eq.2 (rfl)))) (hS.pick [1]) ?_
        refine K.b 35 rfl (.bool false) (hS.pick [1]) ?_
        refine K.DW.done (by kernel_rfl) ?_
        refine K.t (K.f (K.k ?_))
        refine K.blk_normal ?_
        refine K.t (K.g (K.q [K.iv ((j : Nat) : Int)] ?_))
        refine K.a (K.QR.n64 ((((j : Nat) : Int) : Int) + (1 : Int)) ((j + 1 : Nat) : Int) (by kernel_rfl) (by omega)) ?_
        refine K.q [K.iv ((j + 1 : Nat) : Int)] (K.z (K.t ?_))
        refine ⟨_, ?_, j + 1, S, D, (act7 M ((lns c).toNat) (c.th.toNat) (ls.getD j pk0).act), g1, h1, l_38, l_41, rfl, ⟨by rfl, by rfl, by rfl, by rfl, by rfl, by rfl, by rfl, by rfl, by rfl, trivial⟩, (by omega), (hTI), (by assumption), x_30, x_31, x_39, x_42, hS.pick [1, 0, 4, 2, 3, 5, 6]⟩
        omega
     ·
      refine K.z (K.t (K.h (K.s (K.g (K.q [K.pa p_19, K.pa p_5] ?_)))))
      refine K.l (K.OW.gcall hS [1, 2, 3] [0, 4, 5, 6] [K.pa p_19, K.pa p_5] (tkStep_ok _ _ _ _ _ _ _ c (by first | assumption | (unfold cfgOk; decide)) S M _ _ _ x_30 hl_12 x_32 (by assumption) hTI.g.good) ?_)
      clear hS; rintro _ _ w ⟨g_46, l_47, rfl, rfl, h_48, x_49⟩ hS
      replace hS : K.Sat w0 [g_46, gl_9, l_47, h1, m1, g_2, fr] w := hS
      obtain ⟨hTI2, hM2⟩ := TI.step (n := ((lns c).toNat)) (nt := (c.th.toNat)) (by first | assumption | (unfold cfgOk; decide)) hTI (M := M) (by assumption)
      refine K.q [.bool ((tkStep c ((lns c).toNat) (c.th.toNat) S M).1.done)] (K.z (K.t (K.s ?_)))
      cases hb_50 : (tkStep c ((lns c).toNat) (c.th.toNat) S M).1.done
      ·
       refine K.g (K.q [K.pa r_22, K.pa r_7] ?_)
       refine K.l (K.OW.gcall hS [3, 4] [0, 1, 2, 5, 6] [K.pa r_22, K.pa r_7] (rtStep_ok _ _ _ _ _ _ c (by first | assumption | (unfold cfgOk; decide)) S D M _ _ x_31 x_33 (by assumption) hTI) ?_)
       clear hS; rintro _ _ w ⟨g_51, l_52, rfl, rfl, h_53, x_54⟩ hS
       replace hS : K.Sat w0 [g_51, l_52, g_46, gl_9, l_47, g_2, fr] w := hS
       refine K.z (K.t (K.s (K.g (K.q [.bool false, K.pa r_22, K.pa r_22, .pointer (some ⟨r_22, 5, none⟩)] ?_))))
       refine K.d (K.iv ((tkStep c ((lns c).toNat) (c.th.toNat) S M).1.part)) ((hS.blk 0 rfl h_53).cell rfl) ?_
       refine K.xe ((tkStep c ((lns c).toNat) (c.th.toNat) S M).1.part : Int) (0 : Int) (of_decide_eq_false hb_50) ?_
       refine K.q [.bool false] (K.z (K.t (K.f (K.k (K.t (K.s (K.g (K.q [K.iv (-1)] (K.z (K.t (K.s (K.s (K.g (K.q [K.pa r_22, K.pa r_22, .pointer (some ⟨r_22, 5, none⟩)] ?_))))))))))))))
       refine K.d (K.iv ((tkStep c ((lns c).toNat) (c.th.toNat) S M).1.part)) ((hS.blk 0 rfl h_53).cell rfl) ?_
       refine K.xe ((tkStep c ((lns c).toNat) (c.th.toNat) S M).1.part : Int) (0 : Int) (of_decide_eq_false hb_50) ?_
       refine K.z (K.t (K.f (K.k (K.t (K.s ?_)))))
       refine K.KW.gdrawn [0] hS (by kernel_rfl) ?_
       clear hS; intro w hS
       refine K.p 0 rfl (K.pa p_5) (hS.pick [0]) ?_
       refine K.b 1 rfl (K.pa r_7) (hS.pick [0]) ?_
       refine K.DW.l 2 rfl (by kernel_rfl) rfl (K.OW.gcall hS [4, 1] [0, 2, 3, 5, 6] [K.pa p_5, K.pa r_7] (same7_ok _ _ _ _ _ _ _ _ _ _ x_49 x_54) ?_)
       clear hS; rintro _ _ w ⟨rfl, rfl⟩ hS
       replace hS : K.Sat w0 [l_47, l_52, g_51, g_46, gl_9, g_2, fr] w := hS
       refine ⟨.inl (hS.pick [2]), ?_⟩
       refine K.b 3 rfl (.bool false) (hS.pick [2]) ?_
       refine K.b 4 rfl (.bool false) (hS.pick [2]) ?_
       refine K.p 5 rfl (K.pa p_19) (hS.pick [2]) ?_
       refine K.p 7 rfl (K.pa r_22) (hS.pick [2]) ?_
       refine K.p 8 rfl (K.pa r_22) (hS.pick [2]) ?_
       refine K.p 9 rfl (.pointer (some ⟨r_22, 5, none⟩)) (hS.pick [2]) ?_
       refine K.o_ 10 rfl (K.iv ((tkStep c ((lns c).toNat) (c.th.toNat) S M).1.part)) (fun w hS => ((hS.blk 0 rfl h_53).cell rfl)) (hS.pick [2]) ?_
       refine K.m 11 rfl (fun w hS => K.QR.nice (v := .bool (((tkStep c ((lns c).toNat) (c.th.toNat) S M).1.part : Int) == (0 : Int))) (by kernel_rfl) (congrArg Value.bool (beq_eq_false_iff_ne.2 (of_decide_eq_false hb_50)))) (hS.pick [2]) ?_
       refine K.DW.l 6 rfl (by kernel_rfl) (by kernel_rfl) (K.OW.gcall hS [3] [0, 1, 2, 4, 5, 6] [K.pa p_19] (tkDoneE_ok _ _ _ ((tkStep c ((lns c).toNat) (c.th.toNat) S M).1) _ h_48) ?_)
       clear hS; rintro _ _ w ⟨rfl, rfl⟩ hS
       replace hS : K.Sat w0 [g_46, l_47, l_52, g_51, gl_9, g_2, fr] w := hS
       refine ⟨.inl (hS.pick [3]), ?_⟩
       cases hb_55 : (tkStep c ((lns c).toNat) (c.th.toNat) S M).1.done
       ·
        refine K.b 12 rfl (.bool false) (hS.pick [3]) ?_
        refine K.b 13 rfl (.bool false) (hS.pick [3]) ?_
        refine K.b 14 rfl (.bool false) (hS.pick [3]) ?_
        refine K.p 15 rfl (K.pa p_19) (hS.pick [3]) ?_
        refine K.p 17 rfl (K.iv (-1)) (hS.pick [3]) ?_
        refine K.DW.l 16 rfl (by kernel_rfl) (by kernel_rfl) (K.OW.gcall hS [0] [1, 2, 3, 4, 5, 6] [K.pa p_19] (tkSlotE2_ok _ _ _ ((tkStep c ((lns c).toNat) (c.th.toNat) S M).1) _ h_48 ((-1) : Int) (if_neg (by rw [hb_55]; decide))) ?_)
        clear hS; rintro _ _ w ⟨rfl, rfl⟩ hS
        replace hS : K.Sat w0 [g_46, l_47, l_52, g_51, gl_9, g_2, fr] w := hS
        refine ⟨.inl (hS.pick [3]), ?_⟩
        refine K.b 18 rfl (.bool false) (hS.pick [3]) ?_
        refine K.b 19 rfl (.bool false) (hS.pick [3]) ?_
        refine K.b 20 rfl (.bool false) (hS.pick [3]) ?_
        refine K.p 21 rfl (K.pa p_19) (hS.pick [3]) ?_
        refine K.p 23 rfl (K.pa r_22) (hS.pick [3]) ?_
        refine K.DW.l 22 rfl (by kernel_rfl) (by kernel_rfl) (K.OW.gcall hS [0] [1, 2, 3, 4, 5, 6] [K.pa p_19] (tkHoldsE_ok _ _ _ c ((tkStep c ((lns c).toNat) (c.th.toNat) S M).1) _ h_48 hTI2.g.good) ?_)
        clear hS; rintro _ _ w ⟨rfl, rfl⟩ hS
        replace hS : K.Sat w0 [g_46, l_47, l_52, g_51, gl_9, g_2, fr] w := hS
        refine ⟨.inl (hS.pick [3]), ?_⟩
        refine K.DW.l 24 rfl (by kernel_rfl) (by kernel_rfl) (K.OW.gcall hS [3] [0, 1, 2, 4, 5, 6] [K.pa r_22] (rtHolds_ok _ _ c (tkStep c ((lns c).toNat) (c.th.toNat) S M).1 (tdStep c ((lns c).toNat) S D M) _ h_53) ?_)
        clear hS; rintro _ _ w ⟨rfl, rfl⟩ hS
        replace hS : K.Sat w0 [g_51, g_46, l_47, l_52, gl_9, g_2, fr] w := hS
        refine ⟨.inl (hS.pick [0]), ?_⟩
        refine K.c 25 rfl (K.QR.nice (v := .bool (((tkHolds ((tkStep c ((lns c).toNat) (c.th.toNat) S M).1)) : Int) != ((if ((tkStep c ((lns c).toNat) (c.th.toNat) S M).1).part ≥ 5 ∨ ((tkStep c ((lns c).toNat) (c.th.toNat) S M).1).part = 0 ∧ ((tkStep c ((lns c).toNat) (c.th.toNat) S M).1).slot ≥ 0 then ((tkStep c ((lns c).toNat) (c.th.toNat) S M).1).slot else (tdStep c ((lns c).toNat) S D M).holds) : Int))) (by kernel_rfl) (congrArg Value.bool (bne_eq_false_iff_eq.2 (hTI2.holds)))) (hS.pick [0]) ?_
        refine K.b 26 rfl (.bool false) (hS.pick [0]) ?_
        refine K.b 27 rfl (.bool false) (hS.pick [0]) ?_
        refine K.p 28 rfl (K.pa p_19) (hS.pick [0]) ?_
        refine K.p 30 rfl (K.pa r_22) (hS.pick [0]) ?_
        refine K.p 31 rfl (K.pa r_22) (hS.pick [0]) ?_
        refine K.p 32 rfl (.pointer (some ⟨r_22, 8, none⟩)) (hS.pick [0]) ?_
        refine K.o_ 33 rfl (K.iv ((tkStep c ((lns c).toNat) (c.th.toNat) S M).1.empty)) (fun w hS => ((hS.blk 0 rfl h_53).cell rfl)) (hS.pick [0]) ?_
        refine K.DW.l 29 rfl (by kernel_rfl) (by kernel_rfl) (K.OW.gcall hS [1] [0, 2, 3, 4, 5, 6] [K.pa p_19] (tkEmptyE_ok _ _ _ ((tkStep c ((lns c).toNat) (c.th.toNat) S M).1) _ h_48) ?_)
        clear hS; rintro _ _ w ⟨rfl, rfl⟩ hS
        replace hS : K.Sat w0 [g_46, g_51, l_47, l_52, gl_9, g_2, fr] w := hS
        refine ⟨.inl (hS.pick [1]), ?_⟩
        refine K.c 34 rfl (K.QR.nice (v := .bool ((((tkStep c ((lns c).toNat) (c.th.toNat) S M).1).empty : Int) != ((tkStep c ((lns c).toNat) (c.th.toNat) S M).1.empty : Int))) (by kernel_rfl) (congrArg Value.bool (bne_eq_false_iff_eq.2 (rfl)))) (hS.pick [1]) ?_
        refine K.b 35 rfl (.bool false) (hS.pick [1]) ?_
        refine K.DW.done (by kernel_rfl) ?_
        refine K.t (K.f (K.k ?_))
        refine K.blk_normal ?_
        refine K.t (K.g (K.q [K.iv ((j : Nat) : Int)] ?_))
        refine K.a (K.QR.n64 ((((j : Nat) : Int) : Int) + (1 : Int)) ((j + 1 : Nat) : Int) (by kernel_rfl) (by omega)) ?_
        refine K.q [K.iv ((j + 1 : Nat) : Int)] (K.z (K.t ?_))
        refine ⟨_, ?_, j + 1, ((tkStep c ((lns c).toNat) (c.th.toNat) S M).1), (tdStep c ((lns c).toNat) S D M), ((tkStep c ((lns c).toNat) (c.th.toNat) S M).2), g_46, g_51, l_47, l_52, rfl, ⟨by rfl, by rfl, by rfl, by rfl, by rfl, by rfl, by rfl, by rfl, by rfl, trivial⟩, (by omega), (hTI2), (hM2), h_48, h_53, x_49, x_54, hS.pick [1, 0, 4, 2, 3, 5, 6]⟩
        omega
       ·cases (hb_55.symm.trans (show (tkStep c ((lns c).toNat) (c.th.toNat) S M).1.done = false from hb_50))
      ·
       refine K.g (K.q [K.pa r_22, K.pa r_7] ?_)
       refine K.l (K.OW.gcall hS [3, 4] [0, 1, 2, 5, 6] [K.pa r_22, K.pa r_7] (rtStep_ok _ _ _ _ _ _ c (by first | assumption | (unfold cfgOk; decide)) S D M _ _ x_31 x_33 (by assumption) hTI) ?_)
       clear hS; rintro _ _ w ⟨g_56, l_57, rfl, rfl, h_58, x_59⟩ hS
       replace hS : K.Sat w0 [g_56, l_57, g_46, gl_9, l_47, g_2, fr] w := hS
       refine K.z (K.t (K.s (K.g (K.q [.bool true, K.pa r_22, K.pa r_22, .pointer (some ⟨r_22, 5, none⟩)] ?_))))
       refine K.d (K.iv ((tkStep c ((lns c).toNat) (c.th.toNat) S M).1.part)) ((hS.blk 0 rfl h_58).cell rfl) ?_
       refine K.ye ((tkStep c ((lns c).toNat) (c.th.toNat) S M).1.part : Int) (0 : Int) (of_decide_eq_true hb_50) ?_
       refine K.q [.bool false] (K.z (K.t (K.f (K.k (K.t (K.s (K.g (K.q [K.iv (-1)] (K.z (K.t (K.s (K.s (K.g (K.q [K.pa r_22, K.pa r_22, .pointer (some ⟨r_22, 5, none⟩)] ?_))))))))))))))
       refine K.d (K.iv ((tkStep c ((lns c).toNat) (c.th.toNat) S M).1.part)) ((hS.blk 0 rfl h_58).cell rfl) ?_
       refine K.ye ((tkStep c ((lns c).toNat) (c.th.toNat) S M).1.part : Int) (0 : Int) (of_decide_eq_true hb_50) ?_
       refine K.z (K.t (K.h (K.g (K.q [K.pa r_22, K.pa r_22, .pointer (some ⟨r_22, 6, none⟩)] ?_))))
       refine K.d (K.iv ((tkStep c ((lns c).toNat) (c.th.toNat) S M).1.slot)) ((hS.blk 0 rfl h_58).cell rfl) ?_
       refine K.q [K.iv ((tkStep c ((lns c).toNat) (c.th.toNat) S M).1.slot)] (K.z (K.t (K.s ?_)))
       refine K.KW.gdrawn [0] hS (by kernel_rfl) ?_
       clear hS; intro w hS
       refine K.p 0 rfl (K.pa p_5) (hS.pick [0]) ?_
       refine K.b 1 rfl (K.pa r_7) (hS.pick [0]) ?_
       refine K.DW.l 2 rfl (by kernel_rfl) rfl (K.OW.gcall hS [4, 1] [0, 2, 3, 5, 6] [K.pa p_5, K.pa r_7] (same7_ok _ _ _ _ _ _ _ _ _ _ x_49 x_59) ?_)
       clear hS; rintro _ _ w ⟨rfl, rfl⟩ hS
       replace hS : K.Sat w0 [l_47, l_57, g_56, g_46, gl_9, g_2, fr] w := hS
       refine ⟨.inl (hS.pick [2]), ?_⟩
       refine K.b 3 rfl (.bool false) (hS.pick [2]) ?_
       refine K.b 4 rfl (.bool false) (hS.pick [2]) ?_
       refine K.p 5 rfl (K.pa p_19) (hS.pick [2]) ?_
       refine K.p 7 rfl (K.pa r_22) (hS.pick [2]) ?_
       refine K.p 8 rfl (K.pa r_22) (hS.pick [2]) ?_
       refine K.p 9 rfl (.pointer (some ⟨r_22, 5, none⟩)) (hS.pick [2]) ?_
       refine K.o_ 10 rfl (K.iv ((tkStep c ((lns c).toNat) (c.th.toNat) S M).1.part)) (fun w hS => ((hS.blk 0 rfl h_58).cell rfl)) (hS.pick [2]) ?_
       refine K.m 11 rfl (fun w hS => K.QR.nice (v := .bool (((tkStep c ((lns c).toNat) (c.th.toNat) S M).1.part : Int) == (0 : Int))) (by kernel_rfl) (congrArg Value.bool (beq_iff_eq.2 (of_decide_eq_true hb_50)))) (hS.pick [2]) ?_
       refine K.DW.l 6 rfl (by kernel_rfl) (by kernel_rfl) (K.OW.gcall hS [3] [0, 1, 2, 4, 5, 6] [K.pa p_19] (tkDoneE_ok _ _ _ ((tkStep c ((lns c).toNat) (c.th.toNat) S M).1) _ h_48) ?_)
       clear hS; rintro _ _ w ⟨rfl, rfl⟩ hS
       replace hS : K.Sat w0 [g_46, l_47, l_57, g_56, gl_9, g_2, fr] w := hS
       refine ⟨.inl (hS.pick [3]), ?_⟩
       cases hb_60 : (tkStep c ((lns c).toNat) (c.th.toNat) S M).1.done
       ·cases (hb_60.symm.trans (show (tkStep c ((lns c).toNat) (c.th.toNat) S M).1.done = true from hb_50))
       ·
        refine K.b 12 rfl (.bool false) (hS.pick [3]) ?_
        refine K.b 13 rfl (.bool false) (hS.pick [3]) ?_
        refine K.b 14 rfl (.bool false) (hS.pick [3]) ?_
        refine K.p 15 rfl (K.pa p_19) (hS.pick [3]) ?_
        refine K.p 17 rfl (K.iv ((tkStep c ((lns c).toNat) (c.th.toNat) S M).1.slot)) (hS.pick [3]) ?_
        refine K.DW.l 16 rfl (by kernel_rfl) (by kernel_rfl) (K.OW.gcall hS [0] [1, 2, 3, 4, 5, 6] [K.pa p_19] (tkSlotE2_ok _ _ _ ((tkStep c ((lns c).toNat) (c.th.toNat) S M).1) _ h_48 (((tkStep c ((lns c).toNat) (c.th.toNat) S M).1).slot) (if_pos hb_60)) ?_)
        clear hS; rintro _ _ w ⟨rfl, rfl⟩ hS
        replace hS : K.Sat w0 [g_46, l_47, l_57, g_56, gl_9, g_2, fr] w := hS
        refine ⟨.inl (hS.pick [3]), ?_⟩
        refine K.c 18 rfl (K.QR.nice (v := .bool ((((tkStep c ((lns c).toNat) (c.th.toNat) S M).1).slot : Int) != ((tkStep c ((lns c).toNat) (c.th.toNat) S M).1.slot : Int))) (by kernel_rfl) (congrArg Value.bool (bne_eq_false_iff_eq.2 (rfl)))) (hS.pick [3]) ?_
        refine K.b 19 rfl (.bool false) (hS.pick [3]) ?_
        refine K.b 20 rfl (.bool false) (hS.pick [3]) ?_
        refine K.p 21 rfl (K.pa p_19) (hS.pick [3]) ?_
        refine K.p 23 rfl (K.pa r_22) (hS.pick [3]) ?_
        refine K.DW.l 22 rfl (by kernel_rfl) (by kernel_rfl) (K.OW.gcall hS [0] [1, 2, 3, 4, 5, 6] [K.pa p_19] (tkHoldsE_ok _ _ _ c ((tkStep c ((lns c).toNat) (c.th.toNat) S M).1) _ h_48 hTI2.g.good) ?_)
        clear hS; rintro _ _ w ⟨rfl, rfl⟩ hS
        replace hS : K.Sat w0 [g_46, l_47, l_57, g_56, gl_9, g_2, fr] w := hS
        refine ⟨.inl (hS.pick [3]), ?_⟩
        refine K.DW.l 24 rfl (by kernel_rfl) (by kernel_rfl) (K.OW.gcall hS [3] [0, 1, 2, 4, 5, 6] [K.pa r_22] (rtHolds_ok _ _ c (tkStep c ((lns c).toNat) (c.th.toNat) S M).1 (tdStep c ((lns c).toNat) S D M) _ h_58) ?_)
        clear hS; rintro _ _ w ⟨rfl, rfl⟩ hS
        replace hS : K.Sat w0 [g_56, g_46, l_47, l_57, gl_9, g_2, fr] w := hS
        refine ⟨.inl (hS.pick [0]), ?_⟩
        refine K.c 25 rfl (K.QR.nice (v := .bool (((tkHolds ((tkStep c ((lns c).toNat) (c.th.toNat) S M).1)) : Int) != ((if ((tkStep c ((lns c).toNat) (c.th.toNat) S M).1).part ≥ 5 ∨ ((tkStep c ((lns c).toNat) (c.th.toNat) S M).1).part = 0 ∧ ((tkStep c ((lns c).toNat) (c.th.toNat) S M).1).slot ≥ 0 then ((tkStep c ((lns c).toNat) (c.th.toNat) S M).1).slot else (tdStep c ((lns c).toNat) S D M).holds) : Int))) (by kernel_rfl) (congrArg Value.bool (bne_eq_false_iff_eq.2 (hTI2.holds)))) (hS.pick [0]) ?_
        refine K.b 26 rfl (.bool false) (hS.pick [0]) ?_
        refine K.b 27 rfl (.bool false) (hS.pick [0]) ?_
        refine K.p 28 rfl (K.pa p_19) (hS.pick [0]) ?_
        refine K.p 30 rfl (K.pa r_22) (hS.pick [0]) ?_
        refine K.p 31 rfl (K.pa r_22) (hS.pick [0]) ?_
        refine K.p 32 rfl (.pointer (some ⟨r_22, 8, none⟩)) (hS.pick [0]) ?_
        refine K.o_ 33 rfl (K.iv ((tkStep c ((lns c).toNat) (c.th.toNat) S M).1.empty)) (fun w hS => ((hS.blk 0 rfl h_58).cell rfl)) (hS.pick [0]) ?_
        refine K.DW.l 29 rfl (by kernel_rfl) (by kernel_rfl) (K.OW.gcall hS [1] [0, 2, 3, 4, 5, 6] [K.pa p_19] (tkEmptyE_ok _ _ _ ((tkStep c ((lns c).toNat) (c.th.toNat) S M).1) _ h_48) ?_)
        clear hS; rintro _ _ w ⟨rfl, rfl⟩ hS
        replace hS : K.Sat w0 [g_46, g_56, l_47, l_57, gl_9, g_2, fr] w := hS
        refine ⟨.inl (hS.pick [1]), ?_⟩
        refine K.c 34 rfl (K.QR.nice (v := .bool ((((tkStep c ((lns c).toNat) (c.th.toNat) S M).1).empty : Int) != ((tkStep c ((lns c).toNat) (c.th.toNat) S M).1.empty : Int))) (by kernel_rfl) (congrArg Value.bool (bne_eq_false_iff_eq.2 (rfl)))) (hS.pick [1]) ?_
        refine K.b 35 rfl (.bool false) (hS.pick [1]) ?_
        refine K.DW.done (by kernel_rfl) ?_
        refine K.t (K.f (K.k ?_))
        refine K.blk_normal ?_
        refine K.t (K.g (K.q [K.iv ((j : Nat) : Int)] ?_))
        refine K.a (K.QR.n64 ((((j : Nat) : Int) : Int) + (1 : Int)) ((j + 1 : Nat) : Int) (by kernel_rfl) (by omega)) ?_
        refine K.q [K.iv ((j + 1 : Nat) : Int)] (K.z (K.t ?_))
        refine ⟨_, ?_, j + 1, ((tkStep c ((lns c).toNat) (c.th.toNat) S M).1), (tdStep c ((lns c).toNat) S D M), ((tkStep c ((lns c).toNat) (c.th.toNat) S M).2), g_46, g_56, l_47, l_57, rfl, ⟨by rfl, by rfl, by rfl, by rfl, by rfl, by rfl, by rfl, by rfl, by rfl, trivial⟩, (by omega), (hTI2), (hM2), h_48, h_58, x_49, x_59, hS.pick [1, 0, 4, 2, 3, 5, 6]⟩
        omega
    ·
     refine K.x ((((j : Nat) : Int) : Int) < (((ls.length : Nat) : Int) : Int)) h_34 ?_
     refine K.z (K.t (K.f ?_))
     refine K.KW.exit ?_
     refine K.thn_exit ?_
     refine K.thn_exit ?_
     refine K.blk_hit ?_
     refine K.t (K.s (K.g ?_))
     refine K.l (K.OW.gcall hS [] [0, 1, 2, 3, 4, 5, 6] [] (awake12_ok _) ?_)
     clear hS; rintro _ _ w ⟨rfl, rfl⟩ hS
     replace hS : K.Sat w0 [h1, g1, gl_9, l1, m1, g_2, fr] w := hS
     refine K.q [.bool true] (K.z (K.t (K.r ?_)))
     refine ⟨.inr rfl, rfl, (.bool true), K.res1 rfl rfl, [], ?_, hS.pick [6]⟩
     exact rfl
 ·
  replace hS : K.Sat w0 [g_2, fr] w := hS.of (by simp [K.pick, K.nth])
  refine K.q [.tuple #[.pointer none, .pointer none, .pointer none, .bool false], .pointer none, .pointer none, .pointer none, .bool false, .pointer none, .pointer none, .pointer none, .bool false] (K.z (K.t (K.s (K.s (K.g (K.q [.bool false, .bool true, .bool true] (K.n_ (K.n_ (K.n_ (K.q [.bool true] (K.z (K.t (K.h (K.s ?_))))))))))))))
  refine K.g ?_
  refine K.l (K.OW.gcall hS [] [0, 1] [] (awake12_ok _) ?_)
  clear hS; rintro _ _ w ⟨rfl, rfl⟩ hS
  replace hS : K.Sat w0 [g_2, fr] w := hS
  refine K.q [.bool true] (K.z (K.t (K.r (K.u ?_))))
  refine ⟨.inr rfl, rfl, (.bool true), K.res1 rfl rfl, [], ?_, hS.pick [1]⟩
  exact rfl
end Go.Proofs.YtbfafebfkdbglaaGreat
