import Derived.Test.YtbfafebfkdbglaaGreatFr12c
import Derived.Test.YtbfafebfkdbglaaGreatFlist
/- Layer 12: the document's Take: a step. -/
namespace Go.Proofs.YtbfafebfkdbglaaGreat
open Go.RowKit
set_option linter.unusedVariables false
attribute [local irreducible] K.KW K.RW K.DW K.OW K.QR K.KC
set_option maxHeartbeats 1000000 in
set_option maxRecDepth 100000 in
theorem rtPops_ok (w0 : World) (r pm q n t : Nat) (c : Cfg) (hc : cfgOk c) (S : TkS) (D : DM) (M : MemM) (gp l : K.Cs) (hgp : gp = rtkPt r c S D) (x : RMemAt l pm q n t M) (hM : M.good) (hS : S.good c) (hp : S.part = 1 ∨ S.part = 4) (hpc : pcOk S.pop.pc) (hsl : ∀ M : MemM, -1 ≤ (popStep c n S.pop M).1.slot) (ha0 : S.part = 1 → S.adv = tkAdv0 S.t) :
  K.GC Tryz.prog w0 96 #[K.pa r, K.pa pm] [gp, l] (fun v post => ∃ gp' l', v = .tuple #[] ∧ post = [gp', l'] ∧ gp' = rtkPt r c (tkStep c n t S M).1 D ∧ RMemAt l' pm q n t (tkStep c n t S M).2) := by
 have hSt := hS.t; have hSs := hS.slot; have hSg := hS.gen; have hSp := hS.pop; have hSa := hS.adv; have hsp := hS.sp; have hag := hS.ag
 have hsl1 := hsl M
 refine K.GC.mk (n := 50) Tryz.func96 rfl rfl [K.pa r, K.pa pm] rfl rfl ?_
 intro fr w hS
 replace hS : K.Sat w0 [gp, l, fr] w := hS
 refine K.s (K.g (K.q [K.pa r, K.pa r, .pointer (some ⟨r, 9, none⟩), K.pa pm] ?_))
 refine K.l (K.OW.gcall hS [0, 1] [2] [.pointer (some ⟨r, 9, none⟩), K.pa pm] (rtPop_ok _ _ _ _ _ _ c hc S D M _ _ hgp x (by assumption) hSp hpc) ?_)
 clear hS; rintro _ _ w ⟨g_1, l_2, rfl, rfl, h_3, x_4⟩ hS
 replace hS : K.Sat w0 [g_1, l_2, fr] w := hS
 refine K.z (K.t (K.s (K.s ?_)))
 have hpc2 : pcOk (popStep c n S.pop M).1.pc := popStep_pc hpc
 cases hb_5 : decide ((popStep c n S.pop M).1.pc = 3)
 ·
  refine K.g (K.q [K.pa r, K.pa r, .pointer (some ⟨r, 9, none⟩), .pointer (some ⟨r, 14, none⟩)] ?_)
  refine K.d (K.iv (lineOf (popStep c n S.pop M).1.pc)) ((hS.blk 0 rfl h_3).cell rfl) ?_
  refine K.yn ((lineOf (popStep c n S.pop M).1.pc) : Int) (0 : Int) (line_f (of_decide_eq_false hb_5) hpc2) ?_
  refine K.z (K.t (K.h (K.r (K.u ?_))))
  have e : tkPop S (popStep c n S.pop M).1 (popStep c n S.pop M).2.clock = tkSetPop S (popStep c n S.pop M).1 := if_neg (of_decide_eq_false hb_5)
  refine ⟨.inr rfl, rfl, (.tuple #[]), K.res0 rfl, [g_1, l_2], ?_, hS.pick [0, 1, 2]⟩
  exact ⟨_, _, rfl, rfl, by rw [tkS1 hp, e]; exact h_3, by rw [tkS1 hp]; exact x_4⟩
 ·
  refine K.g (K.q [K.pa r, K.pa r, .pointer (some ⟨r, 9, none⟩), .pointer (some ⟨r, 14, none⟩)] ?_)
  refine K.d (K.iv (lineOf (popStep c n S.pop M).1.pc)) ((hS.blk 0 rfl h_3).cell rfl) ?_
  refine K.xn ((lineOf (popStep c n S.pop M).1.pc) : Int) (0 : Int) (line_t (of_decide_eq_true hb_5)) ?_
  refine K.z (K.t (K.f (K.k (K.t (K.s (K.s (K.g (K.q [K.pa r, K.pa r, .pointer (some ⟨r, 9, none⟩), .pointer (some ⟨r, 17, none⟩)] ?_))))))))
  refine K.d (K.iv ((popStep c n S.pop M).1.slot)) ((hS.blk 0 rfl h_3).cell rfl) ?_
  by_cases h_6 : ((popStep c n S.pop M).1.slot : Int) ≥ (0 : Int)
  ·
   refine K.y (((popStep c n S.pop M).1.slot : Int) ≥ (0 : Int)) h_6 ?_
   refine K.z (K.t (K.h (K.s (K.g (K.q [K.pa r, K.pa r, K.pa r, .pointer (some ⟨r, 9, none⟩), .pointer (some ⟨r, 17, none⟩)] ?_)))))
   refine K.d (K.iv ((popStep c n S.pop M).1.slot)) ((hS.blk 0 rfl h_3).cell rfl) ?_
   refine K.q [K.pa r, .pointer (some ⟨r, 6, none⟩)] ?_
   refine K.l (K.OW.gst 0 [K.iv ((popStep c n S.pop M).1.slot)] _ hS h_3 ?_)
   clear hS; intro w g_7 hg_8 hS
   replace hS : K.Sat w0 [g_7, l_2, fr] w := hS
   refine K.z (K.t (K.s (K.g (K.q [K.pa r, K.pa r, .pointer (some ⟨r, 5, none⟩)] ?_))))
   refine K.l (K.OW.gst 0 [K.iv 5] _ hS hg_8 ?_)
   clear hS; intro w g_9 hg_10 hS
   replace hS : K.Sat w0 [g_9, l_2, fr] w := hS
   refine K.z (K.t (K.r (K.u ?_)))
   have e : tkPop S (popStep c n S.pop M).1 (popStep c n S.pop M).2.clock = ⟨S.t, 5, S.again, (popStep c n S.pop M).1.slot, S.gen, S.empty, (popStep c n S.pop M).1, S.adv, S.rc⟩ := by unfold tkPop; rw [if_pos (of_decide_eq_true hb_5), if_pos (by omega)]
   refine ⟨.inr rfl, rfl, (.tuple #[]), K.res0 rfl, [g_9, l_2], ?_, hS.pick [0, 1, 2]⟩
   exact ⟨_, _, rfl, rfl, by rw [tkS1 hp, e]; exact hg_10, by rw [tkS1 hp]; exact x_4⟩
  ·
   refine K.x (((popStep c n S.pop M).1.slot : Int) ≥ (0 : Int)) h_6 ?_
   refine K.z (K.t (K.f (K.k (K.t (K.s (K.s (K.g (K.q [K.pa r, K.pa r, .pointer (some ⟨r, 5, none⟩)] ?_))))))))
   refine K.d (K.iv S.part) ((hS.blk 0 rfl h_3).cell rfl) ?_
   by_cases h_11 : (S.part : Int) = (4 : Int)
   ·
    refine K.ye (S.part : Int) (4 : Int) h_11 ?_
    refine K.z (K.t (K.h (K.s ?_)))
    obtain ⟨rg, rp, rd, ra, rnp, rcp, rfl, hrg, hrp, hrd, hrnp, hrn18⟩ := x_4
    replace hS : K.Sat w0 [g_1, rg, rp, rd, fr] w := hS.of
    refine K.g (K.q [K.pa r, K.pa pm, K.pa pm, .pointer (some ⟨pm, 2, none⟩)] ?_)
    refine K.d (K.iv (((popStep c n S.pop M).2).clock)) ((hS.blk 1 rfl hrg).cell rfl) ?_
    refine K.q [K.pa r, .pointer (some ⟨r, 8, none⟩)] ?_
    refine K.l (K.OW.gst 0 [K.iv (((popStep c n S.pop M).2).clock)] _ hS h_3 ?_)
    clear hS; intro w g_12 hg_13 hS
    replace hS : K.Sat w0 [g_12, rg, rp, rd, fr] w := hS
    refine K.z (K.t (K.s (K.g (K.q [K.pa r, K.pa r, .pointer (some ⟨r, 5, none⟩)] ?_))))
    refine K.l (K.OW.gst 0 [K.iv 0] _ hS hg_13 ?_)
    clear hS; intro w g_14 hg_15 hS
    replace hS : K.Sat w0 [g_14, rg, rp, rd, fr] w := hS
    refine K.z (K.t (K.r (K.u ?_)))
    replace hS : K.Sat w0 [[rg, rp, rd].flatten, g_14, fr] w := (hS.pick [1, 2, 3, 0, 4]).of
    have e : tkPop S (popStep c n S.pop M).1 (popStep c n S.pop M).2.clock = ⟨S.t, 0, S.again, S.slot, S.gen, (popStep c n S.pop M).2.clock, (popStep c n S.pop M).1, S.adv, S.rc⟩ := by unfold tkPop; rw [if_pos (of_decide_eq_true hb_5), if_neg (by omega), if_pos (hag.2 (.inr (.inr (by omega)))), hsp.1 (by omega)]
    refine ⟨.inr rfl, rfl, (.tuple #[]), K.res0 rfl, [g_14, [rg, rp, rd].flatten], ?_, hS.pick [1, 0, 2]⟩
    exact ⟨_, _, rfl, rfl, by rw [tkS1 hp, e]; exact hg_15, by rw [tkS1 hp]; exact ⟨_, _, _, _, _, _, rfl, hrg, hrp, hrd, hrnp, hrn18⟩⟩
   ·
    refine K.xe (S.part : Int) (4 : Int) h_11 ?_
    refine K.z (K.t (K.f (K.k (K.t (K.g (K.q [K.pa r, K.pa r, .pointer (some ⟨r, 5, none⟩)] ?_))))))
    refine K.l (K.OW.gst 0 [K.iv 2] _ hS h_3 ?_)
    clear hS; intro w g_16 hg_17 hS
    replace hS : K.Sat w0 [g_16, l_2, fr] w := hS
    refine K.z ?_
    have e : tkPop S (popStep c n S.pop M).1 (popStep c n S.pop M).2.clock = ⟨S.t, 2, true, S.slot, S.gen, S.empty, (popStep c n S.pop M).1, S.adv, S.rc⟩ := by unfold tkPop; rw [if_pos (of_decide_eq_true hb_5), if_neg (by omega), if_neg (by rw [hag.1 (by omega)]; decide), hsp.1 (by omega), ha0 (by omega)]
    refine ⟨.inl rfl, rfl, (.tuple #[]), K.res0 rfl, [g_16, l_2], ?_, hS.pick [0, 1, 2]⟩
    exact ⟨_, _, rfl, rfl, by rw [tkS1 hp, e]; exact hg_17, by rw [tkS1 hp]; exact x_4⟩
set_option maxHeartbeats 1000000 in
set_option maxRecDepth 100000 in
theorem r12int2_ok (w0 : World) (c : Cfg) (hc : cfgOk c) (t : Int) :
  K.GC Tryz.prog w0 40 #[.agg #[K.iv c.th, K.iv c.sl, K.iv c.lo, K.iv c.bu], K.iv 7, K.iv t] [] (fun v post => v = K.iv (intS c t) ∧ post = []) := by
 refine K.GC.mk (n := 12) Tryz.func40 rfl rfl [.agg #[K.iv c.th, K.iv c.sl, K.iv c.lo, K.iv c.bu], K.iv 7, K.iv t] rfl rfl ?_
 intro fr w hS
 replace hS : K.Sat w0 [fr] w := hS
 refine K.s (K.g ?_)
 refine K.l (K.OW.gnew 23 [K.iv c.th, K.iv c.sl, K.iv c.lo, K.iv c.bu] hS ?_)
 clear hS; intro w r_1 g_2 hg_3 hS
 refine K.q [K.iv 0] (K.z (K.t (K.s (K.g ?_))))
 refine K.a (K.QR.ldN [K.iv c.th, K.iv c.sl, K.iv c.lo, K.iv c.bu] rfl rfl (by kernel_rfl) (by kernel_rfl) (K.cells (K.cl ((hS.blk 0 rfl hg_3).cell rfl) (K.cl ((hS.blk 0 rfl hg_3).cell rfl) (K.cl ((hS.blk 0 rfl hg_3).cell rfl) (K.cl ((hS.blk 0 rfl hg_3).cell rfl) K.cl0)))))) ?_
 refine K.q [K.iv 7, K.iv t] ?_
 refine K.a (K.QR.bd [(0, K.iv 7), (1, K.iv t)] [K.iv 7, K.iv t, K.iv 0] rfl rfl (by kernel_rfl)) ?_
 refine K.l (K.OW.gcall hS [] [0, 1] [.agg #[K.iv c.th, K.iv c.sl, K.iv c.lo, K.iv c.bu], .agg #[K.iv 7, K.iv t, K.iv 0]] (at_ok _ c (⟨7, t, 0⟩ : Nm) (by assumption)) ?_)
 clear hS; rintro _ _ w ⟨rfl, rfl⟩ hS
 replace hS : K.Sat w0 [g_2, fr] w := hS
 refine K.q [K.iv (atT (lasting c) (passing c) (⟨7, t, 0⟩ : Nm))] (K.z (K.t (K.r ?_)))
 refine ⟨.inr rfl, rfl, (K.iv (atT (lasting c) (passing c) (⟨7, t, 0⟩ : Nm))), K.res1 rfl rfl, [], ?_, hS.pick [1]⟩
 exact ⟨congrArg (Value.int .i64) (at_int hc t), rfl⟩
set_option maxHeartbeats 1000000 in
set_option maxRecDepth 100000 in
theorem r12gen_ok (w0 : World) (c : Cfg) (hc : cfgOk c) (t : Int) :
  K.GC Tryz.prog w0 40 #[.agg #[K.iv c.th, K.iv c.sl, K.iv c.lo, K.iv c.bu], K.iv 9, K.iv t] [] (fun v post => v = K.iv (genS c t) ∧ post = []) := by
 refine K.GC.mk (n := 12) Tryz.func40 rfl rfl [.agg #[K.iv c.th, K.iv c.sl, K.iv c.lo, K.iv c.bu], K.iv 9, K.iv t] rfl rfl ?_
 intro fr w hS
 replace hS : K.Sat w0 [fr] w := hS
 refine K.s (K.g ?_)
 refine K.l (K.OW.gnew 23 [K.iv c.th, K.iv c.sl, K.iv c.lo, K.iv c.bu] hS ?_)
 clear hS; intro w r_1 g_2 hg_3 hS
 refine K.q [K.iv 0] (K.z (K.t (K.s (K.g ?_))))
 refine K.a (K.QR.ldN [K.iv c.th, K.iv c.sl, K.iv c.lo, K.iv c.bu] rfl rfl (by kernel_rfl) (by kernel_rfl) (K.cells (K.cl ((hS.blk 0 rfl hg_3).cell rfl) (K.cl ((hS.blk 0 rfl hg_3).cell rfl) (K.cl ((hS.blk 0 rfl hg_3).cell rfl) (K.cl ((hS.blk 0 rfl hg_3).cell rfl) K.cl0)))))) ?_
 refine K.q [K.iv 9, K.iv t] ?_
 refine K.a (K.QR.bd [(0, K.iv 9), (1, K.iv t)] [K.iv 9, K.iv t, K.iv 0] rfl rfl (by kernel_rfl)) ?_
 refine K.l (K.OW.gcall hS [] [0, 1] [.agg #[K.iv c.th, K.iv c.sl, K.iv c.lo, K.iv c.bu], .agg #[K.iv 9, K.iv t, K.iv 0]] (at_ok _ c (⟨9, t, 0⟩ : Nm) (by assumption)) ?_)
 clear hS; rintro _ _ w ⟨rfl, rfl⟩ hS
 replace hS : K.Sat w0 [g_2, fr] w := hS
 refine K.q [K.iv (atT (lasting c) (passing c) (⟨9, t, 0⟩ : Nm))] (K.z (K.t (K.r ?_)))
 refine ⟨.inr rfl, rfl, (K.iv (atT (lasting c) (passing c) (⟨9, t, 0⟩ : Nm))), K.res1 rfl rfl, [], ?_, hS.pick [1]⟩
 exact ⟨congrArg (Value.int .i64) (at_gen hc t), rfl⟩
set_option maxHeartbeats 1000000 in
set_option maxRecDepth 100000 in
theorem rtSt1_ok (w0 : World) (r pm q n t : Nat) (c : Cfg) (hc : cfgOk c) (S : TkS) (D : DM) (M : MemM) (gp l : K.Cs) (hgp : gp = rtkPt r c S D) (x : RMemAt l pm q n t M) (hM : M.good) (hS : S.good c) (hp : S.part = 1 ∨ S.part = 4) (hpc : pcOk S.pop.pc) (hsl : ∀ M : MemM, -1 ≤ (popStep c n S.pop M).1.slot) (ha0 : S.part = 1 → S.adv = tkAdv0 S.t) :
  K.GC Tryz.prog w0 44 #[K.pa r, K.pa pm] [gp, l] (fun v post => ∃ gp' l', v = .tuple #[] ∧ post = [gp', l'] ∧ gp' = rtkPt r c (tkStep c n t S M).1 D ∧ RMemAt l' pm q n t (tkStep c n t S M).2) := by
 have hS0 := hS
 have hSt := hS.t; have hSs := hS.slot; have hSg := hS.gen; have hSp := hS.pop; have hSa := hS.adv; have hsp := hS.sp; have hag := hS.ag
 refine K.GC.mk (n := 183) Tryz.func44 rfl rfl [K.pa r, K.pa pm] rfl rfl ?_
 intro fr w hS
 replace hS : K.Sat w0 [gp, l, fr] w := hS
 refine K.s ?_
 refine K.KW.gdrawn [0] hS (by kernel_rfl) ?_
 clear hS; intro w hS
 refine K.p 0 rfl (K.pa r) (hS.pick [0]) ?_
 refine K.p 1 rfl (K.pa r) (hS.pick [0]) ?_
 refine K.p 2 rfl (K.pa r) (hS.pick [0]) ?_
 refine K.m 3 rfl (fun w hS => K.QR.ldN [K.iv c.th, K.iv c.sl, K.iv c.lo, K.iv c.bu] rfl rfl (by kernel_rfl) (by kernel_rfl) (K.cells (K.cl ((hS.blk 0 rfl hgp).cell rfl) (K.cl ((hS.blk 0 rfl hgp).cell rfl) (K.cl ((hS.blk 0 rfl hgp).cell rfl) (K.cl ((hS.blk 0 rfl hgp).cell rfl) K.cl0)))))) (hS.pick [0]) ?_
 refine K.b 4 rfl (K.pa r) (hS.pick [0]) ?_
 refine K.b 5 rfl (K.pa r) (hS.pick [0]) ?_
 refine K.b 6 rfl (.pointer (some ⟨r, 4, none⟩)) (hS.pick [0]) ?_
 refine K.c 7 rfl (K.QR.ld1 (v := K.iv S.t) rfl rfl (by kernel_rfl) ((hS.blk 0 rfl hgp).cell rfl)) (hS.pick [0]) ?_
 refine K.DW.l 8 rfl (by kernel_rfl) rfl (K.OW.gcall hS [] [0, 1, 2] [.agg #[K.iv c.th, K.iv c.sl, K.iv c.lo, K.iv c.bu], K.iv 7, K.iv S.t] (r12int2_ok _ c (by first | assumption | (unfold cfgOk; decide)) S.t) ?_)
 clear hS; rintro _ _ w ⟨rfl, rfl⟩ hS
 replace hS : K.Sat w0 [gp, l, fr] w := hS
 refine ⟨.inl (hS.pick [0]), ?_⟩
 refine K.b 9 rfl (K.iv (intS c S.t)) (hS.pick [0]) ?_
 refine K.DW.done (by kernel_rfl) ?_
 refine K.t (K.s (K.s (K.g (K.q [K.pa r, K.pa r, .pointer (some ⟨r, 5, none⟩)] ?_))))
 refine K.d (K.iv S.part) ((hS.blk 0 rfl hgp).cell rfl) ?_
 by_cases h_1 : (S.part : Int) = (1 : Int)
 ·
  refine K.ye (S.part : Int) (1 : Int) h_1 ?_
  refine K.q [.bool true] (K.n_ (K.n_ (K.n_ (K.n_ (K.n_ (K.q [.bool true] (K.z (K.t (K.h (K.s (K.g (K.q [K.pa r, K.pa pm] ?_))))))))))))
  refine K.l (K.OW.gcall hS [0, 1] [2] [K.pa r, K.pa pm] (rtPops_ok _ _ _ _ _ _ c hc S D M _ _ hgp x hM hS0 hp hpc hsl ha0) ?_)
  clear hS; rintro _ _ w ⟨g_2, l_3, rfl, rfl, h_4, x_5⟩ hS
  replace hS : K.Sat w0 [g_2, l_3, fr] w := hS
  refine K.z (K.t (K.r (K.u ?_)))
  refine ⟨.inr rfl, rfl, (.tuple #[]), K.res0 rfl, [g_2, l_3], ?_, hS.pick [0, 1, 2]⟩
  exact ⟨_, _, rfl, rfl, h_4, x_5⟩
 ·
  refine K.xe (S.part : Int) (1 : Int) h_1 ?_
  refine K.q [.bool false, K.pa r, K.pa r, .pointer (some ⟨r, 5, none⟩)] ?_
  refine K.d (K.iv S.part) ((hS.blk 0 rfl hgp).cell rfl) ?_
  refine K.ye (S.part : Int) (4 : Int) (by omega) ?_
  refine K.q [.bool true] (K.z (K.t (K.h (K.s (K.g (K.q [K.pa r, K.pa pm] ?_))))))
  refine K.l (K.OW.gcall hS [0, 1] [2] [K.pa r, K.pa pm] (rtPops_ok _ _ _ _ _ _ c hc S D M _ _ hgp x hM hS0 hp hpc hsl ha0) ?_)
  clear hS; rintro _ _ w ⟨g_6, l_7, rfl, rfl, h_8, x_9⟩ hS
  replace hS : K.Sat w0 [g_6, l_7, fr] w := hS
  refine K.z (K.t (K.r (K.u ?_)))
  refine ⟨.inr rfl, rfl, (.tuple #[]), K.res0 rfl, [g_6, l_7], ?_, hS.pick [0, 1, 2]⟩
  exact ⟨_, _, rfl, rfl, h_8, x_9⟩
theorem lineAd_t {d : Bool} {p x : Int} (h : d = true) : lineAd d p x = 0 := if_pos h
theorem lineAd_f {d : Bool} {p x : Int} (h : d = false) (hx : 0 ≤ x) : ¬ lineAd d p x = 0 := by
 unfold lineAd
 rw [if_neg (by rw [h]; decide)]
 split <;> omega
theorem incx (x : Int) : IntKind.u64.wrap (IntKind.i64.wrap (x + 1)) = inc64x x := by
 have h : IntKind.i64.wrap (x + 1) = (x + 1 + 9223372036854775808) % 18446744073709551616 - 9223372036854775808 := by simp [IntKind.wrap, IntKind.bits, IntKind.signed]; omega
 unfold inc64x
 rw [wrapU, wrapU, wrapU, h]
 omega
theorem rtAd_ok (w0 : World) (r pm q n t : Nat) (c : Cfg) (hc : cfgOk c) (S : TkS) (D : DM) (M : MemM) (gp l : K.Cs) (hgp : gp = rtkPt r c S D) (x : RMemAt l pm q n t M) (hM : M.good) (hS : S.adv.good) (hd : S.adv.done = false) :
  K.GC Tryz.prog w0 97 #[.pointer (some ⟨r, 18, none⟩), K.pa pm] [gp, l] (fun v post => ∃ gp' l', v = .tuple #[] ∧ post = [gp', l'] ∧ gp' = rtkPt r c (tkSetAdv S (advStep c n S.adv M).1) D ∧ RMemAt l' pm q n t (advStep c n S.adv M).2) := by
 rcases hS.2.2.2 with h | h | h
 ·rw [hd] at h; cases h
 ·exact rtAd1_ok w0 r pm q n t c hc S D M gp l hgp x hM hS hd h.1
 ·exact rtAd2_ok w0 r pm q n t c hc S D M gp l hgp x hM hS hd h
set_option maxHeartbeats 1000000 in
set_option maxRecDepth 100000 in
theorem rtSt2_ok (w0 : World) (r pm q n t : Nat) (c : Cfg) (hc : cfgOk c) (S : TkS) (D : DM) (M : MemM) (gp l : K.Cs) (hgp : gp = rtkPt r c S D) (x : RMemAt l pm q n t M) (hM : M.good) (hS : S.good c) (hp : S.part = 2) (hd : S.adv.done = false) :
  K.GC Tryz.prog w0 44 #[K.pa r, K.pa pm] [gp, l] (fun v post => ∃ gp' l', v = .tuple #[] ∧ post = [gp', l'] ∧ gp' = rtkPt r c (tkStep c n t S M).1 D ∧ RMemAt l' pm q n t (tkStep c n t S M).2) := by
 have hS0 := hS
 have hSt := hS.t; have hSs := hS.slot; have hSg := hS.gen; have hSp := hS.pop; have hSa := hS.adv; have hsp := hS.sp; have hag := hS.ag
 refine K.GC.mk (n := 183) Tryz.func44 rfl rfl [K.pa r, K.pa pm] rfl rfl ?_
 intro fr w hS
 replace hS : K.Sat w0 [gp, l, fr] w := hS
 refine K.s ?_
 refine K.KW.gdrawn [0] hS (by kernel_rfl) ?_
 clear hS; intro w hS
 refine K.p 0 rfl (K.pa r) (hS.pick [0]) ?_
 refine K.p 1 rfl (K.pa r) (hS.pick [0]) ?_
 refine K.p 2 rfl (K.pa r) (hS.pick [0]) ?_
 refine K.m 3 rfl (fun w hS => K.QR.ldN [K.iv c.th, K.iv c.sl, K.iv c.lo, K.iv c.bu] rfl rfl (by kernel_rfl) (by kernel_rfl) (K.cells (K.cl ((hS.blk 0 rfl hgp).cell rfl) (K.cl ((hS.blk 0 rfl hgp).cell rfl) (K.cl ((hS.blk 0 rfl hgp).cell rfl) (K.cl ((hS.blk 0 rfl hgp).cell rfl) K.cl0)))))) (hS.pick [0]) ?_
 refine K.b 4 rfl (K.pa r) (hS.pick [0]) ?_
 refine K.b 5 rfl (K.pa r) (hS.pick [0]) ?_
 refine K.b 6 rfl (.pointer (some ⟨r, 4, none⟩)) (hS.pick [0]) ?_
 refine K.c 7 rfl (K.QR.ld1 (v := K.iv S.t) rfl rfl (by kernel_rfl) ((hS.blk 0 rfl hgp).cell rfl)) (hS.pick [0]) ?_
 refine K.DW.l 8 rfl (by kernel_rfl) rfl (K.OW.gcall hS [] [0, 1, 2] [.agg #[K.iv c.th, K.iv c.sl, K.iv c.lo, K.iv c.bu], K.iv 7, K.iv S.t] (r12int2_ok _ c (by first | assumption | (unfold cfgOk; decide)) S.t) ?_)
 clear hS; rintro _ _ w ⟨rfl, rfl⟩ hS
 replace hS : K.Sat w0 [gp, l, fr] w := hS
 refine ⟨.inl (hS.pick [0]), ?_⟩
 refine K.b 9 rfl (K.iv (intS c S.t)) (hS.pick [0]) ?_
 refine K.DW.done (by kernel_rfl) ?_
 refine K.t (K.s (K.s (K.g (K.q [K.pa r, K.pa r, .pointer (some ⟨r, 5, none⟩)] ?_))))
 refine K.d (K.iv S.part) ((hS.blk 0 rfl hgp).cell rfl) ?_
 refine K.xe (S.part : Int) (1 : Int) (by omega) ?_
 refine K.q [.bool false, K.pa r, K.pa r, .pointer (some ⟨r, 5, none⟩)] ?_
 refine K.d (K.iv S.part) ((hS.blk 0 rfl hgp).cell rfl) ?_
 refine K.xe (S.part : Int) (4 : Int) (by omega) ?_
 refine K.q [.bool false] (K.z (K.t (K.f (K.k (K.t (K.s (K.s (K.g (K.q [K.pa r, K.pa r, .pointer (some ⟨r, 5, none⟩)] ?_)))))))))
 refine K.d (K.iv S.part) ((hS.blk 0 rfl hgp).cell rfl) ?_
 refine K.ye (S.part : Int) (2 : Int) (hp) ?_
 refine K.z (K.t (K.h (K.s (K.g (K.q [K.pa r, K.pa r, .pointer (some ⟨r, 18, none⟩), K.pa pm] ?_)))))
 refine K.l (K.OW.gcall hS [0, 1] [2] [.pointer (some ⟨r, 18, none⟩), K.pa pm] (rtAd_ok _ _ _ _ _ _ c hc S D M _ _ hgp x hM hSa hd) ?_)
 clear hS; rintro _ _ w ⟨g_1, l_2, rfl, rfl, h_3, x_4⟩ hS
 replace hS : K.Sat w0 [g_1, l_2, fr] w := hS
 refine K.z (K.t (K.s (K.s ?_)))
 have hnx : 0 ≤ (advStep c n S.adv M).1.next := (advStep_good hc hSa hM).1.2.2.1.1
 cases hb_5 : (advStep c n S.adv M).1.done
 ·
  refine K.g (K.q [K.pa r, K.pa r, .pointer (some ⟨r, 18, none⟩), .pointer (some ⟨r, 24, none⟩)] ?_)
  refine K.d (K.iv (lineAd (advStep c n S.adv M).1.done (advStep c n S.adv M).1.pc (advStep c n S.adv M).1.next)) ((hS.blk 0 rfl h_3).cell rfl) ?_
  refine K.xe ((lineAd (advStep c n S.adv M).1.done (advStep c n S.adv M).1.pc (advStep c n S.adv M).1.next) : Int) (0 : Int) (lineAd_f hb_5 hnx) ?_
  refine K.z (K.t (K.f (K.k (K.t (K.r (K.u ?_))))))
  have e1 : tkAdv S (advStep c n S.adv M).1 = ⟨S.t, S.part, S.again, S.slot, S.gen, S.empty, S.pop, (advStep c n S.adv M).1, S.rc⟩ := if_neg (by rw [hb_5]; decide)
  refine ⟨.inr rfl, rfl, (.tuple #[]), K.res0 rfl, [g_1, l_2], ?_, hS.pick [0, 1, 2]⟩
  exact ⟨_, _, rfl, rfl, by rw [tkS2 hp, e1]; exact h_3, by rw [tkS2 hp]; exact x_4⟩
 ·
  refine K.g (K.q [K.pa r, K.pa r, .pointer (some ⟨r, 18, none⟩), .pointer (some ⟨r, 24, none⟩)] ?_)
  refine K.d (K.iv (lineAd (advStep c n S.adv M).1.done (advStep c n S.adv M).1.pc (advStep c n S.adv M).1.next)) ((hS.blk 0 rfl h_3).cell rfl) ?_
  refine K.ye ((lineAd (advStep c n S.adv M).1.done (advStep c n S.adv M).1.pc (advStep c n S.adv M).1.next) : Int) (0 : Int) (lineAd_t hb_5) ?_
  refine K.z (K.t (K.h (K.g (K.q [K.pa r, K.pa r, .pointer (some ⟨r, 5, none⟩)] ?_))))
  refine K.l (K.OW.gst 0 [K.iv 3] _ hS h_3 ?_)
  clear hS; intro w g_6 hg_7 hS
  replace hS : K.Sat w0 [g_6, l_2, fr] w := hS
  refine K.z (K.t (K.r (K.u ?_)))
  have e1 : tkAdv S (advStep c n S.adv M).1 = ⟨S.t, 3, S.again, S.slot, S.gen, S.empty, S.pop, (advStep c n S.adv M).1, tkRec0 S.t⟩ := if_pos hb_5
  refine ⟨.inr rfl, rfl, (.tuple #[]), K.res0 rfl, [g_6, l_2], ?_, hS.pick [0, 1, 2]⟩
  exact ⟨_, _, rfl, rfl, by rw [tkS2 hp, e1]; exact hg_7, by rw [tkS2 hp]; exact x_4⟩
set_option maxHeartbeats 1000000 in
set_option maxRecDepth 100000 in
theorem rtSt3_ok (w0 : World) (r pm q n t : Nat) (c : Cfg) (hc : cfgOk c) (S : TkS) (D : DM) (M : MemM) (gp l : K.Cs) (hgp : gp = rtkPt r c S D) (x : RMemAt l pm q n t M) (hM : M.good) (hS : S.good c) (hp : S.part = 3) (hr : relRec c S.rc D) (hDg : D.good c) :
  K.GC Tryz.prog w0 44 #[K.pa r, K.pa pm] [gp, l] (fun v post => ∃ gp' l', v = .tuple #[] ∧ post = [gp', l'] ∧ gp' = rtkPt r c (tkStep c n t S M).1 (dStep3 c n D M).1 ∧ RMemAt l' pm q n t (tkStep c n t S M).2) := by
 have hS0 := hS
 have hSt := hS.t; have hSs := hS.slot; have hSg := hS.gen; have hSp := hS.pop; have hSa := hS.adv; have hsp := hS.sp; have hag := hS.ag
 obtain ⟨hr2, hm2⟩ := rel_rec (n := n) (M := M) hS.rc hr
 have hl2 := rec_line (recStep_good hc hS.rc hM).1 hr2
 refine K.GC.mk (n := 183) Tryz.func44 rfl rfl [K.pa r, K.pa pm] rfl rfl ?_
 intro fr w hS
 replace hS : K.Sat w0 [gp, l, fr] w := hS
 refine K.s ?_
 refine K.KW.gdrawn [0] hS (by kernel_rfl) ?_
 clear hS; intro w hS
 refine K.p 0 rfl (K.pa r) (hS.pick [0]) ?_
 refine K.p 1 rfl (K.pa r) (hS.pick [0]) ?_
 refine K.p 2 rfl (K.pa r) (hS.pick [0]) ?_
 refine K.m 3 rfl (fun w hS => K.QR.ldN [K.iv c.th, K.iv c.sl, K.iv c.lo, K.iv c.bu] rfl rfl (by kernel_rfl) (by kernel_rfl) (K.cells (K.cl ((hS.blk 0 rfl hgp).cell rfl) (K.cl ((hS.blk 0 rfl hgp).cell rfl) (K.cl ((hS.blk 0 rfl hgp).cell rfl) (K.cl ((hS.blk 0 rfl hgp).cell rfl) K.cl0)))))) (hS.pick [0]) ?_
 refine K.b 4 rfl (K.pa r) (hS.pick [0]) ?_
 refine K.b 5 rfl (K.pa r) (hS.pick [0]) ?_
 refine K.b 6 rfl (.pointer (some ⟨r, 4, none⟩)) (hS.pick [0]) ?_
 refine K.c 7 rfl (K.QR.ld1 (v := K.iv S.t) rfl rfl (by kernel_rfl) ((hS.blk 0 rfl hgp).cell rfl)) (hS.pick [0]) ?_
 refine K.DW.l 8 rfl (by kernel_rfl) rfl (K.OW.gcall hS [] [0, 1, 2] [.agg #[K.iv c.th, K.iv c.sl, K.iv c.lo, K.iv c.bu], K.iv 7, K.iv S.t] (r12int2_ok _ c (by first | assumption | (unfold cfgOk; decide)) S.t) ?_)
 clear hS; rintro _ _ w ⟨rfl, rfl⟩ hS
 replace hS : K.Sat w0 [gp, l, fr] w := hS
 refine ⟨.inl (hS.pick [0]), ?_⟩
 refine K.b 9 rfl (K.iv (intS c S.t)) (hS.pick [0]) ?_
 refine K.DW.done (by kernel_rfl) ?_
 refine K.t (K.s (K.s (K.g (K.q [K.pa r, K.pa r, .pointer (some ⟨r, 5, none⟩)] ?_))))
 refine K.d (K.iv S.part) ((hS.blk 0 rfl hgp).cell rfl) ?_
 refine K.xe (S.part : Int) (1 : Int) (by omega) ?_
 refine K.q [.bool false, K.pa r, K.pa r, .pointer (some ⟨r, 5, none⟩)] ?_
 refine K.d (K.iv S.part) ((hS.blk 0 rfl hgp).cell rfl) ?_
 refine K.xe (S.part : Int) (4 : Int) (by omega) ?_
 refine K.q [.bool false] (K.z (K.t (K.f (K.k (K.t (K.s (K.s (K.g (K.q [K.pa r, K.pa r, .pointer (some ⟨r, 5, none⟩)] ?_)))))))))
 refine K.d (K.iv S.part) ((hS.blk 0 rfl hgp).cell rfl) ?_
 refine K.xe (S.part : Int) (2 : Int) (by omega) ?_
 refine K.z (K.t (K.f (K.k (K.t (K.s (K.s (K.g (K.q [K.pa r, K.pa r, .pointer (some ⟨r, 5, none⟩)] ?_))))))))
 refine K.d (K.iv S.part) ((hS.blk 0 rfl hgp).cell rfl) ?_
 refine K.ye (S.part : Int) (3 : Int) (hp) ?_
 refine K.z (K.t (K.h (K.s (K.g (K.q [K.pa r, K.pa r, .pointer (some ⟨r, 27, none⟩), K.pa pm] ?_)))))
 refine K.l (K.OW.gcall hS [0, 1] [2] [.pointer (some ⟨r, 27, none⟩), K.pa pm] (rtRs_ok _ _ _ _ _ _ c hc S D M _ _ hgp x hM hr.2.1 hDg) ?_)
 clear hS; rintro _ _ w ⟨g_1, l_2, rfl, rfl, h_3, x_4⟩ hS
 replace hS : K.Sat w0 [g_1, l_2, fr] w := hS
 refine K.z (K.t (K.s (K.s ?_)))
 have h0 := hp
 cases hb_5 : (recStep c n S.rc M).1.done
 ·
  refine K.g (K.q [K.pa r, K.pa r, .pointer (some ⟨r, 27, none⟩), .pointer (some ⟨r, 33, none⟩)] ?_)
  refine K.d (K.iv ((dStep3 c n D M).1.line)) ((hS.blk 0 rfl h_3).cell rfl) ?_
  refine K.xe ((dStep3 c n D M).1.line : Int) (0 : Int) (hl2.2 (of_decide_eq_false hb_5)) ?_
  refine K.z (K.t (K.f (K.k (K.t (K.r (K.u ?_))))))
  have e1 : tkRec S (recStep c n S.rc M).1 = ⟨S.t, S.part, S.again, S.slot, S.gen, S.empty, S.pop, S.adv, (recStep c n S.rc M).1⟩ := if_neg (by rw [show (recStep c n S.rc M).1.done = false from hb_5]; decide)
  refine ⟨.inr rfl, rfl, (.tuple #[]), K.res0 rfl, [g_1, l_2], ?_, hS.pick [0, 1, 2]⟩
  exact ⟨_, _, rfl, rfl, by rw [tkS3 hp, e1]; exact h_3, by rw [tkS3 hp]; show RMemAt _ _ _ _ _ (recStep c n S.rc M).2; rw [← hm2]; exact x_4⟩
 ·
  refine K.g (K.q [K.pa r, K.pa r, .pointer (some ⟨r, 27, none⟩), .pointer (some ⟨r, 33, none⟩)] ?_)
  refine K.d (K.iv ((dStep3 c n D M).1.line)) ((hS.blk 0 rfl h_3).cell rfl) ?_
  refine K.ye ((dStep3 c n D M).1.line : Int) (0 : Int) (hl2.1 (of_decide_eq_true hb_5)) ?_
  refine K.z (K.t (K.h (K.s (K.g (K.q [K.pa r, K.pa r, .pointer (some ⟨r, 5, none⟩)] ?_)))))
  refine K.l (K.OW.gst 0 [K.iv 4] _ hS h_3 ?_)
  clear hS; intro w g_6 hg_7 hS
  replace hS : K.Sat w0 [g_6, l_2, fr] w := hS
  refine K.z (K.t ?_)
  refine K.KW.gdrawn [0] hS (by kernel_rfl) ?_
  clear hS; intro w hS
  refine K.p 0 rfl (K.pa r) (hS.pick [0]) ?_
  refine K.p 1 rfl (K.pa r) (hS.pick [0]) ?_
  refine K.p 2 rfl (K.pa r) (hS.pick [0]) ?_
  refine K.p 3 rfl (K.pa r) (hS.pick [0]) ?_
  refine K.m 4 rfl (fun w hS => K.QR.ldN [K.iv c.th, K.iv c.sl, K.iv c.lo, K.iv c.bu] rfl rfl (by kernel_rfl) (by kernel_rfl) (K.cells (K.cl ((hS.blk 0 rfl hg_7).cell rfl) (K.cl ((hS.blk 0 rfl hg_7).cell rfl) (K.cl ((hS.blk 0 rfl hg_7).cell rfl) (K.cl ((hS.blk 0 rfl hg_7).cell rfl) K.cl0)))))) (hS.pick [0]) ?_
  refine K.b 5 rfl (K.pa r) (hS.pick [0]) ?_
  refine K.b 6 rfl (K.pa r) (hS.pick [0]) ?_
  refine K.b 7 rfl (.pointer (some ⟨r, 4, none⟩)) (hS.pick [0]) ?_
  refine K.c 8 rfl (K.QR.ld1 (v := K.iv S.t) rfl rfl (by kernel_rfl) ((hS.blk 0 rfl hg_7).cell rfl)) (hS.pick [0]) ?_
  refine K.c 9 rfl (K.QR.bd [(0, .agg #[K.iv c.th, K.iv c.sl, K.iv c.lo, K.iv c.bu]), (1, K.iv S.t), (2, K.iv 1), (5, K.iv (-1))] [K.iv c.th, K.iv c.sl, K.iv c.lo, K.iv c.bu, K.iv S.t, K.iv 1, .int .u64 0, .int .u64 0, K.iv (-1)] rfl rfl (by kernel_rfl)) (hS.pick [0]) ?_
  refine K.b 10 rfl (K.pa r) (hS.pick [0]) ?_
  refine K.b 11 rfl (.pointer (some ⟨r, 9, none⟩)) (hS.pick [0]) ?_
  refine K.DW.l 12 rfl (by kernel_rfl) rfl (K.OW.gst 0 [K.iv c.th, K.iv c.sl, K.iv c.lo, K.iv c.bu, K.iv S.t, K.iv 1, .int .u64 0, .int .u64 0, K.iv (-1)] _ hS hg_7 ?_)
  clear hS; intro w g_8 hg_9 hS
  replace hS : K.Sat w0 [g_8, l_2, fr] w := hS
  refine ⟨.inr (by kernel_rfl), ?_⟩
  refine K.DW.done (by kernel_rfl) ?_
  refine K.t (K.r (K.u ?_))
  have e1 : tkRec S (recStep c n S.rc M).1 = ⟨S.t, 4, S.again, S.slot, S.gen, S.empty, tkPop0 S.t, S.adv, (recStep c n S.rc M).1⟩ := if_pos hb_5
  refine ⟨.inr rfl, rfl, (.tuple #[]), K.res0 rfl, [g_8, l_2], ?_, hS.pick [0, 1, 2]⟩
  exact ⟨_, _, rfl, rfl, by rw [tkS3 hp, e1]; exact hg_9, by rw [tkS3 hp]; show RMemAt _ _ _ _ _ (recStep c n S.rc M).2; rw [← hm2]; exact x_4⟩
set_option maxHeartbeats 1000000 in
set_option maxRecDepth 100000 in
theorem rtSt0_ok (w0 : World) (r pm q n t : Nat) (c : Cfg) (hc : cfgOk c) (S : TkS) (D : DM) (M : MemM) (gp l : K.Cs) (hgp : gp = rtkPt r c S D) (x : RMemAt l pm q n t M) (hM : M.good) (hS : S.good c) (hp : S.part = 0) :
  K.GC Tryz.prog w0 44 #[K.pa r, K.pa pm] [gp, l] (fun v post => ∃ gp' l', v = .tuple #[] ∧ post = [gp', l'] ∧ gp' = rtkPt r c (tkStep c n t S M).1 D ∧ RMemAt l' pm q n t (tkStep c n t S M).2) := by
 have hS0 := hS
 have hSt := hS.t; have hSs := hS.slot; have hSg := hS.gen; have hSp := hS.pop; have hSa := hS.adv; have hsp := hS.sp; have hag := hS.ag
 refine K.GC.mk (n := 183) Tryz.func44 rfl rfl [K.pa r, K.pa pm] rfl rfl ?_
 intro fr w hS
 replace hS : K.Sat w0 [gp, l, fr] w := hS
 refine K.s ?_
 refine K.KW.gdrawn [0] hS (by kernel_rfl) ?_
 clear hS; intro w hS
 refine K.p 0 rfl (K.pa r) (hS.pick [0]) ?_
 refine K.p 1 rfl (K.pa r) (hS.pick [0]) ?_
 refine K.p 2 rfl (K.pa r) (hS.pick [0]) ?_
 refine K.m 3 rfl (fun w hS => K.QR.ldN [K.iv c.th, K.iv c.sl, K.iv c.lo, K.iv c.bu] rfl rfl (by kernel_rfl) (by kernel_rfl) (K.cells (K.cl ((hS.blk 0 rfl hgp).cell rfl) (K.cl ((hS.blk 0 rfl hgp).cell rfl) (K.cl ((hS.blk 0 rfl hgp).cell rfl) (K.cl ((hS.blk 0 rfl hgp).cell rfl) K.cl0)))))) (hS.pick [0]) ?_
 refine K.b 4 rfl (K.pa r) (hS.pick [0]) ?_
 refine K.b 5 rfl (K.pa r) (hS.pick [0]) ?_
 refine K.b 6 rfl (.pointer (some ⟨r, 4, none⟩)) (hS.pick [0]) ?_
 refine K.c 7 rfl (K.QR.ld1 (v := K.iv S.t) rfl rfl (by kernel_rfl) ((hS.blk 0 rfl hgp).cell rfl)) (hS.pick [0]) ?_
 refine K.DW.l 8 rfl (by kernel_rfl) rfl (K.OW.gcall hS [] [0, 1, 2] [.agg #[K.iv c.th, K.iv c.sl, K.iv c.lo, K.iv c.bu], K.iv 7, K.iv S.t] (r12int2_ok _ c (by first | assumption | (unfold cfgOk; decide)) S.t) ?_)
 clear hS; rintro _ _ w ⟨rfl, rfl⟩ hS
 replace hS : K.Sat w0 [gp, l, fr] w := hS
 refine ⟨.inl (hS.pick [0]), ?_⟩
 refine K.b 9 rfl (K.iv (intS c S.t)) (hS.pick [0]) ?_
 refine K.DW.done (by kernel_rfl) ?_
 refine K.t (K.s (K.s (K.g (K.q [K.pa r, K.pa r, .pointer (some ⟨r, 5, none⟩)] ?_))))
 refine K.d (K.iv S.part) ((hS.blk 0 rfl hgp).cell rfl) ?_
 refine K.xe (S.part : Int) (1 : Int) (by omega) ?_
 refine K.q [.bool false, K.pa r, K.pa r, .pointer (some ⟨r, 5, none⟩)] ?_
 refine K.d (K.iv S.part) ((hS.blk 0 rfl hgp).cell rfl) ?_
 refine K.xe (S.part : Int) (4 : Int) (by omega) ?_
 refine K.q [.bool false] (K.z (K.t (K.f (K.k (K.t (K.s (K.s (K.g (K.q [K.pa r, K.pa r, .pointer (some ⟨r, 5, none⟩)] ?_)))))))))
 refine K.d (K.iv S.part) ((hS.blk 0 rfl hgp).cell rfl) ?_
 refine K.xe (S.part : Int) (2 : Int) (by omega) ?_
 refine K.z (K.t (K.f (K.k (K.t (K.s (K.s (K.g (K.q [K.pa r, K.pa r, .pointer (some ⟨r, 5, none⟩)] ?_))))))))
 refine K.d (K.iv S.part) ((hS.blk 0 rfl hgp).cell rfl) ?_
 refine K.xe (S.part : Int) (3 : Int) (by omega) ?_
 refine K.z (K.t (K.f (K.k (K.t (K.s (K.s (K.g (K.q [K.pa r, K.pa r, .pointer (some ⟨r, 5, none⟩)] ?_))))))))
 refine K.d (K.iv S.part) ((hS.blk 0 rfl hgp).cell rfl) ?_
 refine K.ye (S.part : Int) (0 : Int) (hp) ?_
 refine K.z (K.t (K.h (K.r (K.u ?_))))
 refine ⟨.inr rfl, rfl, (.tuple #[]), K.res0 rfl, [gp, l], ?_, hS.pick [0, 1, 2]⟩
 exact ⟨_, _, rfl, rfl, by rw [tkS0 hp]; exact hgp, by rw [tkS0 hp]; exact x⟩
set_option maxHeartbeats 1000000 in
set_option maxRecDepth 100000 in
theorem rtSt5_ok (w0 : World) (r pm q n t : Nat) (c : Cfg) (hc : cfgOk c) (S : TkS) (D : DM) (M : MemM) (gp l : K.Cs) (hgp : gp = rtkPt r c S D) (x : RMemAt l pm q n t M) (hM : M.good) (hS : S.good c) (hp : S.part = 5) :
  K.GC Tryz.prog w0 44 #[K.pa r, K.pa pm] [gp, l] (fun v post => ∃ gp' l', v = .tuple #[] ∧ post = [gp', l'] ∧ gp' = rtkPt r c (tkStep c n t S M).1 D ∧ RMemAt l' pm q n t (tkStep c n t S M).2) := by
 have hS0 := hS
 have hSt := hS.t; have hSs := hS.slot; have hSg := hS.gen; have hSp := hS.pop; have hSa := hS.adv; have hsp := hS.sp; have hag := hS.ag
 have hgp2 : gp = rtkPt r c (tkTo S 5) D := by rw [tkTo_self hp]; exact hgp
 refine K.GC.mk (n := 183) Tryz.func44 rfl rfl [K.pa r, K.pa pm] rfl rfl ?_
 intro fr w hS
 replace hS : K.Sat w0 [gp, l, fr] w := hS
 refine K.s ?_
 refine K.KW.gdrawn [0] hS (by kernel_rfl) ?_
 clear hS; intro w hS
 refine K.p 0 rfl (K.pa r) (hS.pick [0]) ?_
 refine K.p 1 rfl (K.pa r) (hS.pick [0]) ?_
 refine K.p 2 rfl (K.pa r) (hS.pick [0]) ?_
 refine K.m 3 rfl (fun w hS => K.QR.ldN [K.iv c.th, K.iv c.sl, K.iv c.lo, K.iv c.bu] rfl rfl (by kernel_rfl) (by kernel_rfl) (K.cells (K.cl ((hS.blk 0 rfl hgp2).cell rfl) (K.cl ((hS.blk 0 rfl hgp2).cell rfl) (K.cl ((hS.blk 0 rfl hgp2).cell rfl) (K.cl ((hS.blk 0 rfl hgp2).cell rfl) K.cl0)))))) (hS.pick [0]) ?_
 refine K.b 4 rfl (K.pa r) (hS.pick [0]) ?_
 refine K.b 5 rfl (K.pa r) (hS.pick [0]) ?_
 refine K.b 6 rfl (.pointer (some ⟨r, 4, none⟩)) (hS.pick [0]) ?_
 refine K.c 7 rfl (K.QR.ld1 (v := K.iv S.t) rfl rfl (by kernel_rfl) ((hS.blk 0 rfl hgp2).cell rfl)) (hS.pick [0]) ?_
 refine K.DW.l 8 rfl (by kernel_rfl) rfl (K.OW.gcall hS [] [0, 1, 2] [.agg #[K.iv c.th, K.iv c.sl, K.iv c.lo, K.iv c.bu], K.iv 7, K.iv S.t] (r12int2_ok _ c (by first | assumption | (unfold cfgOk; decide)) S.t) ?_)
 clear hS; rintro _ _ w ⟨rfl, rfl⟩ hS
 replace hS : K.Sat w0 [gp, l, fr] w := hS
 refine ⟨.inl (hS.pick [0]), ?_⟩
 refine K.b 9 rfl (K.iv (intS c S.t)) (hS.pick [0]) ?_
 refine K.DW.done (by kernel_rfl) ?_
 refine K.t (K.s (K.s (K.g (K.q [K.pa r, K.pa r, .pointer (some ⟨r, 5, none⟩)] ?_))))
 refine K.d (K.iv 5) ((hS.blk 0 rfl hgp2).cell rfl) ?_
 refine K.q [.bool false, .bool false, K.pa r, K.pa r, .pointer (some ⟨r, 5, none⟩)] ?_
 refine K.d (K.iv 5) ((hS.blk 0 rfl hgp2).cell rfl) ?_
 refine K.q [.bool false, .bool false] (K.z (K.t (K.f (K.k (K.t (K.s (K.s (K.g (K.q [K.pa r, K.pa r, .pointer (some ⟨r, 5, none⟩)] ?_)))))))))
 refine K.d (K.iv 5) ((hS.blk 0 rfl hgp2).cell rfl) ?_
 refine K.q [.bool false] (K.z (K.t (K.f (K.k (K.t (K.s (K.s (K.g (K.q [K.pa r, K.pa r, .pointer (some ⟨r, 5, none⟩)] ?_)))))))))
 refine K.d (K.iv 5) ((hS.blk 0 rfl hgp2).cell rfl) ?_
 refine K.q [.bool false] (K.z (K.t (K.f (K.k (K.t (K.s (K.s (K.g (K.q [K.pa r, K.pa r, .pointer (some ⟨r, 5, none⟩)] ?_)))))))))
 refine K.d (K.iv 5) ((hS.blk 0 rfl hgp2).cell rfl) ?_
 refine K.q [.bool false] (K.z (K.t (K.f (K.k (K.t (K.s (K.s (K.g (K.q [K.pa r, K.pa r, .pointer (some ⟨r, 5, none⟩)] ?_)))))))))
 refine K.d (K.iv 5) ((hS.blk 0 rfl hgp2).cell rfl) ?_
 refine K.q [.bool true] (K.z (K.t (K.h ?_)))
 refine K.KW.gdrawn [0] hS (by kernel_rfl) ?_
 clear hS; intro w hS
 refine K.p 0 rfl (K.pa pm) (hS.pick [0]) ?_
 refine K.p 1 rfl (K.pa r) (hS.pick [0]) ?_
 refine K.p 2 rfl (K.pa r) (hS.pick [0]) ?_
 refine K.p 3 rfl (.pointer (some ⟨r, 4, none⟩)) (hS.pick [0]) ?_
 refine K.o_ 4 rfl (K.iv S.t) (fun w hS => ((hS.blk 0 rfl hgp2).cell rfl)) (hS.pick [0]) ?_
 refine K.p 5 rfl (K.iv (intS c S.t)) (hS.pick [0]) ?_
 refine K.b 6 rfl (K.pa r) (hS.pick [0]) ?_
 refine K.b 7 rfl (K.pa r) (hS.pick [0]) ?_
 refine K.b 8 rfl (.pointer (some ⟨r, 6, none⟩)) (hS.pick [0]) ?_
 refine K.c 9 rfl (K.QR.ld1 (v := K.iv S.slot) rfl rfl (by kernel_rfl) ((hS.blk 0 rfl hgp2).cell rfl)) (hS.pick [0]) ?_
 refine K.b 10 rfl (K.iv (IntKind.i64.wrap ((S.slot : Int) + (1 : Int)))) (hS.pick [0]) ?_
 refine K.c 11 rfl (K.QR.turn (v := .int .u64 (IntKind.u64.wrap (IntKind.i64.wrap ((S.slot : Int) + (1 : Int))))) (K.QR.k (v := .int .u64 (IntKind.u64.wrap (IntKind.i64.wrap ((S.slot : Int) + (1 : Int))))) (by kernel_rfl)) (congrArg (Value.int .u64) (show (IntKind.u64.wrap (IntKind.i64.wrap ((S.slot : Int) + (1 : Int))) : Int) = (inc64x S.slot : Int) from incx _))) (hS.pick [0]) ?_
 refine K.DW.l 12 rfl (by kernel_rfl) rfl (K.OW.gcall hS [1] [0, 2] [K.pa pm, K.iv 2, K.iv S.t, K.iv (intS c S.t), .int .u64 0, .int .u64 (inc64x S.slot)] (rmDo2_ok _ _ _ _ _ _ _ x S.t (intS c S.t) (0 : Int) (inc64x S.slot) (by omega) (by first | omega | assumption | exact log_int (by assumption) _ _ | exact int_int (by assumption) _ | exact gen_int (by assumption) _ | exact aft_int (by assumption) _ | exact ann_int (by assumption) _ (by omega))) ?_)
 clear hS; rintro _ _ w ⟨l_1, rfl, rfl, x_2⟩ hS
 replace hS : K.Sat w0 [l_1, gp, fr] w := hS
 refine ⟨.inl (hS.pick [1]), ?_⟩
 refine K.DW.done (by kernel_rfl) ?_
 refine K.t (K.s (K.s (K.g (K.q [K.pa r, K.pa r, .pointer (some ⟨r, 5, none⟩)] ?_))))
 refine K.d (K.iv 5) ((hS.blk 1 rfl hgp2).cell rfl) ?_
 refine K.q [.bool false] (K.z (K.t (K.f (K.k (K.t (K.s (K.s (K.g (K.q [K.pa r, K.pa r, .pointer (some ⟨r, 5, none⟩)] ?_)))))))))
 refine K.d (K.iv 5) ((hS.blk 1 rfl hgp2).cell rfl) ?_
 refine K.q [.bool false] (K.z (K.t (K.f (K.k (K.t (K.s (K.s (K.g (K.q [K.pa r, K.pa r, .pointer (some ⟨r, 5, none⟩)] ?_)))))))))
 refine K.d (K.iv 5) ((hS.blk 1 rfl hgp2).cell rfl) ?_
 refine K.q [.bool false] (K.z (K.t (K.f (K.k (K.t (K.s (K.s (K.g (K.q [K.pa r, K.pa r, .pointer (some ⟨r, 5, none⟩)] ?_)))))))))
 refine K.d (K.iv 5) ((hS.blk 1 rfl hgp2).cell rfl) ?_
 refine K.q [.bool false] (K.z (K.t (K.f (K.k (K.t (K.g (K.q [K.pa r, K.pa r, K.pa r, .pointer (some ⟨r, 5, none⟩)] ?_)))))))
 refine K.d (K.iv 5) ((hS.blk 1 rfl hgp2).cell rfl) ?_
 refine K.q [K.iv 6, K.iv 6, K.pa r, .pointer (some ⟨r, 5, none⟩)] ?_
 refine K.l (K.OW.gst 1 [K.iv 6] _ hS hgp2 ?_)
 clear hS; intro w g_3 hg_4 hS
 replace hS : K.Sat w0 [l_1, g_3, fr] w := hS
 refine K.z ?_
 refine ⟨.inl rfl, rfl, (.tuple #[]), K.res0 rfl, [g_3, l_1], ?_, hS.pick [1, 0, 2]⟩
 exact ⟨_, _, rfl, rfl, by rw [tkS5 hp]; exact hg_4, by rw [tkS5 hp]; exact x_2⟩
set_option maxHeartbeats 1000000 in
set_option maxRecDepth 100000 in
theorem rtSt6_ok (w0 : World) (r pm q n t : Nat) (c : Cfg) (hc : cfgOk c) (S : TkS) (D : DM) (M : MemM) (gp l : K.Cs) (hgp : gp = rtkPt r c S D) (x : RMemAt l pm q n t M) (hM : M.good) (hS : S.good c) (hp : S.part = 6) :
  K.GC Tryz.prog w0 44 #[K.pa r, K.pa pm] [gp, l] (fun v post => ∃ gp' l', v = .tuple #[] ∧ post = [gp', l'] ∧ gp' = rtkPt r c (tkStep c n t S M).1 D ∧ RMemAt l' pm q n t (tkStep c n t S M).2) := by
 have hS0 := hS
 have hSt := hS.t; have hSs := hS.slot; have hSg := hS.gen; have hSp := hS.pop; have hSa := hS.adv; have hsp := hS.sp; have hag := hS.ag
 have hgp2 : gp = rtkPt r c (tkTo S 6) D := by rw [tkTo_self hp]; exact hgp
 refine K.GC.mk (n := 183) Tryz.func44 rfl rfl [K.pa r, K.pa pm] rfl rfl ?_
 intro fr w hS
 replace hS : K.Sat w0 [gp, l, fr] w := hS
 refine K.s ?_
 refine K.KW.gdrawn [0] hS (by kernel_rfl) ?_
 clear hS; intro w hS
 refine K.p 0 rfl (K.pa r) (hS.pick [0]) ?_
 refine K.p 1 rfl (K.pa r) (hS.pick [0]) ?_
 refine K.p 2 rfl (K.pa r) (hS.pick [0]) ?_
 refine K.m 3 rfl (fun w hS => K.QR.ldN [K.iv c.th, K.iv c.sl, K.iv c.lo, K.iv c.bu] rfl rfl (by kernel_rfl) (by kernel_rfl) (K.cells (K.cl ((hS.blk 0 rfl hgp2).cell rfl) (K.cl ((hS.blk 0 rfl hgp2).cell rfl) (K.cl ((hS.blk 0 rfl hgp2).cell rfl) (K.cl ((hS.blk 0 rfl hgp2).cell rfl) K.cl0)))))) (hS.pick [0]) ?_
 refine K.b 4 rfl (K.pa r) (hS.pick [0]) ?_
 refine K.b 5 rfl (K.pa r) (hS.pick [0]) ?_
 refine K.b 6 rfl (.pointer (some ⟨r, 4, none⟩)) (hS.pick [0]) ?_
 refine K.c 7 rfl (K.QR.ld1 (v := K.iv S.t) rfl rfl (by kernel_rfl) ((hS.blk 0 rfl hgp2).cell rfl)) (hS.pick [0]) ?_
 refine K.DW.l 8 rfl (by kernel_rfl) rfl (K.OW.gcall hS [] [0, 1, 2] [.agg #[K.iv c.th, K.iv c.sl, K.iv c.lo, K.iv c.bu], K.iv 7, K.iv S.t] (r12int2_ok _ c (by first | assumption | (unfold cfgOk; decide)) S.t) ?_)
 clear hS; rintro _ _ w ⟨rfl, rfl⟩ hS
 replace hS : K.Sat w0 [gp, l, fr] w := hS
 refine ⟨.inl (hS.pick [0]), ?_⟩
 refine K.b 9 rfl (K.iv (intS c S.t)) (hS.pick [0]) ?_
 refine K.DW.done (by kernel_rfl) ?_
 refine K.t (K.s (K.s (K.g (K.q [K.pa r, K.pa r, .pointer (some ⟨r, 5, none⟩)] ?_))))
 refine K.d (K.iv 6) ((hS.blk 0 rfl hgp2).cell rfl) ?_
 refine K.q [.bool false, .bool false, K.pa r, K.pa r, .pointer (some ⟨r, 5, none⟩)] ?_
 refine K.d (K.iv 6) ((hS.blk 0 rfl hgp2).cell rfl) ?_
 refine K.q [.bool false, .bool false] (K.z (K.t (K.f (K.k (K.t (K.s (K.s (K.g (K.q [K.pa r, K.pa r, .pointer (some ⟨r, 5, none⟩)] ?_)))))))))
 refine K.d (K.iv 6) ((hS.blk 0 rfl hgp2).cell rfl) ?_
 refine K.q [.bool false] (K.z (K.t (K.f (K.k (K.t (K.s (K.s (K.g (K.q [K.pa r, K.pa r, .pointer (some ⟨r, 5, none⟩)] ?_)))))))))
 refine K.d (K.iv 6) ((hS.blk 0 rfl hgp2).cell rfl) ?_
 refine K.q [.bool false] (K.z (K.t (K.f (K.k (K.t (K.s (K.s (K.g (K.q [K.pa r, K.pa r, .pointer (some ⟨r, 5, none⟩)] ?_)))))))))
 refine K.d (K.iv 6) ((hS.blk 0 rfl hgp2).cell rfl) ?_
 refine K.q [.bool false] (K.z (K.t (K.f (K.k (K.t (K.s (K.s (K.g (K.q [K.pa r, K.pa r, .pointer (some ⟨r, 5, none⟩)] ?_)))))))))
 refine K.d (K.iv 6) ((hS.blk 0 rfl hgp2).cell rfl) ?_
 refine K.q [.bool false] (K.z (K.t (K.f (K.k (K.t (K.s (K.s (K.g (K.q [K.pa r, K.pa r, .pointer (some ⟨r, 5, none⟩)] ?_)))))))))
 refine K.d (K.iv 6) ((hS.blk 0 rfl hgp2).cell rfl) ?_
 refine K.q [.bool true] (K.z (K.t (K.h (K.g (K.q [K.pa pm, K.pa r, K.pa r, .pointer (some ⟨r, 4, none⟩)] ?_)))))
 refine K.d (K.iv S.t) ((hS.blk 0 rfl hgp2).cell rfl) ?_
 refine K.q [K.iv (intS c S.t)] ?_
 refine K.l (K.OW.gcall hS [1] [0, 2] [K.pa pm, K.iv 4, K.iv S.t, K.iv (intS c S.t), .int .u64 0, .int .u64 0] (rmDo4_ok _ _ _ _ _ _ _ x S.t (intS c S.t) (0 : Int) (0 : Int) (by omega) (by first | omega | assumption | exact log_int (by assumption) _ _ | exact int_int (by assumption) _ | exact gen_int (by assumption) _ | exact aft_int (by assumption) _ | exact ann_int (by assumption) _ (by omega))) ?_)
 clear hS; rintro _ _ w ⟨l_1, rfl, rfl, x_2⟩ hS
 replace hS : K.Sat w0 [l_1, gp, fr] w := hS
 refine K.z (K.t (K.s (K.s (K.g (K.q [K.pa r, K.pa r, .pointer (some ⟨r, 5, none⟩)] ?_)))))
 refine K.d (K.iv 6) ((hS.blk 1 rfl hgp2).cell rfl) ?_
 refine K.q [.bool false] (K.z (K.t (K.f (K.k (K.t (K.s (K.s (K.g (K.q [K.pa r, K.pa r, .pointer (some ⟨r, 5, none⟩)] ?_)))))))))
 refine K.d (K.iv 6) ((hS.blk 1 rfl hgp2).cell rfl) ?_
 refine K.q [.bool false] (K.z (K.t (K.f (K.k (K.t (K.s (K.s (K.g (K.q [K.pa r, K.pa r, .pointer (some ⟨r, 5, none⟩)] ?_)))))))))
 refine K.d (K.iv 6) ((hS.blk 1 rfl hgp2).cell rfl) ?_
 refine K.q [.bool false] (K.z (K.t (K.f (K.k (K.t (K.g (K.q [K.pa r, K.pa r, K.pa r, .pointer (some ⟨r, 5, none⟩)] ?_)))))))
 refine K.d (K.iv 6) ((hS.blk 1 rfl hgp2).cell rfl) ?_
 refine K.q [K.iv 7, K.iv 7, K.pa r, .pointer (some ⟨r, 5, none⟩)] ?_
 refine K.l (K.OW.gst 1 [K.iv 7] _ hS hgp2 ?_)
 clear hS; intro w g_3 hg_4 hS
 replace hS : K.Sat w0 [l_1, g_3, fr] w := hS
 refine K.z ?_
 refine ⟨.inl rfl, rfl, (.tuple #[]), K.res0 rfl, [g_3, l_1], ?_, hS.pick [1, 0, 2]⟩
 exact ⟨_, _, rfl, rfl, by rw [tkS6 hp]; exact hg_4, by rw [tkS6 hp]; exact x_2⟩
set_option maxHeartbeats 1000000 in
set_option maxRecDepth 100000 in
theorem rtSt7_ok (w0 : World) (r pm q n t : Nat) (c : Cfg) (hc : cfgOk c) (S : TkS) (D : DM) (M : MemM) (gp l : K.Cs) (hgp : gp = rtkPt r c S D) (x : RMemAt l pm q n t M) (hM : M.good) (hS : S.good c) (hp : S.part = 7) :
  K.GC Tryz.prog w0 44 #[K.pa r, K.pa pm] [gp, l] (fun v post => ∃ gp' l', v = .tuple #[] ∧ post = [gp', l'] ∧ gp' = rtkPt r c (tkStep c n t S M).1 D ∧ RMemAt l' pm q n t (tkStep c n t S M).2) := by
 have hS0 := hS
 have hSt := hS.t; have hSs := hS.slot; have hSg := hS.gen; have hSp := hS.pop; have hSa := hS.adv; have hsp := hS.sp; have hag := hS.ag
 have hgp2 : gp = rtkPt r c (tkTo S 7) D := by rw [tkTo_self hp]; exact hgp
 refine K.GC.mk (n := 183) Tryz.func44 rfl rfl [K.pa r, K.pa pm] rfl rfl ?_
 intro fr w hS
 replace hS : K.Sat w0 [gp, l, fr] w := hS
 refine K.s ?_
 refine K.KW.gdrawn [0] hS (by kernel_rfl) ?_
 clear hS; intro w hS
 refine K.p 0 rfl (K.pa r) (hS.pick [0]) ?_
 refine K.p 1 rfl (K.pa r) (hS.pick [0]) ?_
 refine K.p 2 rfl (K.pa r) (hS.pick [0]) ?_
 refine K.m 3 rfl (fun w hS => K.QR.ldN [K.iv c.th, K.iv c.sl, K.iv c.lo, K.iv c.bu] rfl rfl (by kernel_rfl) (by kernel_rfl) (K.cells (K.cl ((hS.blk 0 rfl hgp2).cell rfl) (K.cl ((hS.blk 0 rfl hgp2).cell rfl) (K.cl ((hS.blk 0 rfl hgp2).cell rfl) (K.cl ((hS.blk 0 rfl hgp2).cell rfl) K.cl0)))))) (hS.pick [0]) ?_
 refine K.b 4 rfl (K.pa r) (hS.pick [0]) ?_
 refine K.b 5 rfl (K.pa r) (hS.pick [0]) ?_
 refine K.b 6 rfl (.pointer (some ⟨r, 4, none⟩)) (hS.pick [0]) ?_
 refine K.c 7 rfl (K.QR.ld1 (v := K.iv S.t) rfl rfl (by kernel_rfl) ((hS.blk 0 rfl hgp2).cell rfl)) (hS.pick [0]) ?_
 refine K.DW.l 8 rfl (by kernel_rfl) rfl (K.OW.gcall hS [] [0, 1, 2] [.agg #[K.iv c.th, K.iv c.sl, K.iv c.lo, K.iv c.bu], K.iv 7, K.iv S.t] (r12int2_ok _ c (by first | assumption | (unfold cfgOk; decide)) S.t) ?_)
 clear hS; rintro _ _ w ⟨rfl, rfl⟩ hS
 replace hS : K.Sat w0 [gp, l, fr] w := hS
 refine ⟨.inl (hS.pick [0]), ?_⟩
 refine K.b 9 rfl (K.iv (intS c S.t)) (hS.pick [0]) ?_
 refine K.DW.done (by kernel_rfl) ?_
 refine K.t (K.s (K.s (K.g (K.q [K.pa r, K.pa r, .pointer (some ⟨r, 5, none⟩)] ?_))))
 refine K.d (K.iv 7) ((hS.blk 0 rfl hgp2).cell rfl) ?_
 refine K.q [.bool false, .bool false, K.pa r, K.pa r, .pointer (some ⟨r, 5, none⟩)] ?_
 refine K.d (K.iv 7) ((hS.blk 0 rfl hgp2).cell rfl) ?_
 refine K.q [.bool false, .bool false] (K.z (K.t (K.f (K.k (K.t (K.s (K.s (K.g (K.q [K.pa r, K.pa r, .pointer (some ⟨r, 5, none⟩)] ?_)))))))))
 refine K.d (K.iv 7) ((hS.blk 0 rfl hgp2).cell rfl) ?_
 refine K.q [.bool false] (K.z (K.t (K.f (K.k (K.t (K.s (K.s (K.g (K.q [K.pa r, K.pa r, .pointer (some ⟨r, 5, none⟩)] ?_)))))))))
 refine K.d (K.iv 7) ((hS.blk 0 rfl hgp2).cell rfl) ?_
 refine K.q [.bool false] (K.z (K.t (K.f (K.k (K.t (K.s (K.s (K.g (K.q [K.pa r, K.pa r, .pointer (some ⟨r, 5, none⟩)] ?_)))))))))
 refine K.d (K.iv 7) ((hS.blk 0 rfl hgp2).cell rfl) ?_
 refine K.q [.bool false] (K.z (K.t (K.f (K.k (K.t (K.s (K.s (K.g (K.q [K.pa r, K.pa r, .pointer (some ⟨r, 5, none⟩)] ?_)))))))))
 refine K.d (K.iv 7) ((hS.blk 0 rfl hgp2).cell rfl) ?_
 refine K.q [.bool false] (K.z (K.t (K.f (K.k (K.t (K.s (K.s (K.g (K.q [K.pa r, K.pa r, .pointer (some ⟨r, 5, none⟩)] ?_)))))))))
 refine K.d (K.iv 7) ((hS.blk 0 rfl hgp2).cell rfl) ?_
 refine K.q [.bool false] (K.z (K.t (K.f (K.k (K.t (K.s (K.s (K.g (K.q [K.pa r, K.pa r, .pointer (some ⟨r, 5, none⟩)] ?_)))))))))
 refine K.d (K.iv 7) ((hS.blk 0 rfl hgp2).cell rfl) ?_
 refine K.q [.bool true] (K.z (K.t (K.h (K.g (K.q [K.pa pm, K.pa r, K.pa r, .pointer (some ⟨r, 4, none⟩)] ?_)))))
 refine K.d (K.iv S.t) ((hS.blk 0 rfl hgp2).cell rfl) ?_
 refine K.l (K.OW.gcall hS [1] [0, 2] [K.pa pm, K.iv 5, K.iv S.t, K.iv 0, .int .u64 0, .int .u64 0] (rmDo5_ok _ _ _ _ _ _ _ x S.t (0 : Int) (0 : Int) (0 : Int) (by omega) (by first | omega | assumption | exact log_int (by assumption) _ _ | exact int_int (by assumption) _ | exact gen_int (by assumption) _ | exact aft_int (by assumption) _ | exact ann_int (by assumption) _ (by omega))) ?_)
 clear hS; rintro _ _ w ⟨l_1, rfl, rfl, x_2⟩ hS
 replace hS : K.Sat w0 [l_1, gp, fr] w := hS
 refine K.z (K.t (K.s (K.s (K.g (K.q [K.pa r, K.pa r, .pointer (some ⟨r, 5, none⟩)] ?_)))))
 refine K.d (K.iv 7) ((hS.blk 1 rfl hgp2).cell rfl) ?_
 refine K.q [.bool false] (K.z (K.t (K.f (K.k (K.t (K.s (K.s (K.g (K.q [K.pa r, K.pa r, .pointer (some ⟨r, 5, none⟩)] ?_)))))))))
 refine K.d (K.iv 7) ((hS.blk 1 rfl hgp2).cell rfl) ?_
 refine K.q [.bool false] (K.z (K.t (K.f (K.k (K.t (K.g (K.q [K.pa r, K.pa r, K.pa r, .pointer (some ⟨r, 5, none⟩)] ?_)))))))
 refine K.d (K.iv 7) ((hS.blk 1 rfl hgp2).cell rfl) ?_
 refine K.q [K.iv 8, K.iv 8, K.pa r, .pointer (some ⟨r, 5, none⟩)] ?_
 refine K.l (K.OW.gst 1 [K.iv 8] _ hS hgp2 ?_)
 clear hS; intro w g_3 hg_4 hS
 replace hS : K.Sat w0 [l_1, g_3, fr] w := hS
 refine K.z ?_
 refine ⟨.inl rfl, rfl, (.tuple #[]), K.res0 rfl, [g_3, l_1], ?_, hS.pick [1, 0, 2]⟩
 exact ⟨_, _, rfl, rfl, by rw [tkS7 hp]; exact hg_4, by rw [tkS7 hp]; exact x_2⟩
set_option maxHeartbeats 1000000 in
set_option maxRecDepth 100000 in
theorem rtSt8_ok (w0 : World) (r pm q n t : Nat) (c : Cfg) (hc : cfgOk c) (S : TkS) (D : DM) (M : MemM) (gp l : K.Cs) (hgp : gp = rtkPt r c S D) (x : RMemAt l pm q n t M) (hM : M.good) (hS : S.good c) (hp : S.part = 8) :
  K.GC Tryz.prog w0 44 #[K.pa r, K.pa pm] [gp, l] (fun v post => ∃ gp' l', v = .tuple #[] ∧ post = [gp', l'] ∧ gp' = rtkPt r c (tkStep c n t S M).1 D ∧ RMemAt l' pm q n t (tkStep c n t S M).2) := by
 have hS0 := hS
 have hSt := hS.t; have hSs := hS.slot; have hSg := hS.gen; have hSp := hS.pop; have hSa := hS.adv; have hsp := hS.sp; have hag := hS.ag
 have hgp2 : gp = rtkPt r c (tkTo S 8) D := by rw [tkTo_self hp]; exact hgp
 refine K.GC.mk (n := 183) Tryz.func44 rfl rfl [K.pa r, K.pa pm] rfl rfl ?_
 intro fr w hS
 replace hS : K.Sat w0 [gp, l, fr] w := hS
 refine K.s ?_
 refine K.KW.gdrawn [0] hS (by kernel_rfl) ?_
 clear hS; intro w hS
 refine K.p 0 rfl (K.pa r) (hS.pick [0]) ?_
 refine K.p 1 rfl (K.pa r) (hS.pick [0]) ?_
 refine K.p 2 rfl (K.pa r) (hS.pick [0]) ?_
 refine K.m 3 rfl (fun w hS => K.QR.ldN [K.iv c.th, K.iv c.sl, K.iv c.lo, K.iv c.bu] rfl rfl (by kernel_rfl) (by kernel_rfl) (K.cells (K.cl ((hS.blk 0 rfl hgp2).cell rfl) (K.cl ((hS.blk 0 rfl hgp2).cell rfl) (K.cl ((hS.blk 0 rfl hgp2).cell rfl) (K.cl ((hS.blk 0 rfl hgp2).cell rfl) K.cl0)))))) (hS.pick [0]) ?_
 refine K.b 4 rfl (K.pa r) (hS.pick [0]) ?_
 refine K.b 5 rfl (K.pa r) (hS.pick [0]) ?_
 refine K.b 6 rfl (.pointer (some ⟨r, 4, none⟩)) (hS.pick [0]) ?_
 refine K.c 7 rfl (K.QR.ld1 (v := K.iv S.t) rfl rfl (by kernel_rfl) ((hS.blk 0 rfl hgp2).cell rfl)) (hS.pick [0]) ?_
 refine K.DW.l 8 rfl (by kernel_rfl) rfl (K.OW.gcall hS [] [0, 1, 2] [.agg #[K.iv c.th, K.iv c.sl, K.iv c.lo, K.iv c.bu], K.iv 7, K.iv S.t] (r12int2_ok _ c (by first | assumption | (unfold cfgOk; decide)) S.t) ?_)
 clear hS; rintro _ _ w ⟨rfl, rfl⟩ hS
 replace hS : K.Sat w0 [gp, l, fr] w := hS
 refine ⟨.inl (hS.pick [0]), ?_⟩
 refine K.b 9 rfl (K.iv (intS c S.t)) (hS.pick [0]) ?_
 refine K.DW.done (by kernel_rfl) ?_
 refine K.t (K.s (K.s (K.g (K.q [K.pa r, K.pa r, .pointer (some ⟨r, 5, none⟩)] ?_))))
 refine K.d (K.iv 8) ((hS.blk 0 rfl hgp2).cell rfl) ?_
 refine K.q [.bool false, .bool false, K.pa r, K.pa r, .pointer (some ⟨r, 5, none⟩)] ?_
 refine K.d (K.iv 8) ((hS.blk 0 rfl hgp2).cell rfl) ?_
 refine K.q [.bool false, .bool false] (K.z (K.t (K.f (K.k (K.t (K.s (K.s (K.g (K.q [K.pa r, K.pa r, .pointer (some ⟨r, 5, none⟩)] ?_)))))))))
 refine K.d (K.iv 8) ((hS.blk 0 rfl hgp2).cell rfl) ?_
 refine K.q [.bool false] (K.z (K.t (K.f (K.k (K.t (K.s (K.s (K.g (K.q [K.pa r, K.pa r, .pointer (some ⟨r, 5, none⟩)] ?_)))))))))
 refine K.d (K.iv 8) ((hS.blk 0 rfl hgp2).cell rfl) ?_
 refine K.q [.bool false] (K.z (K.t (K.f (K.k (K.t (K.s (K.s (K.g (K.q [K.pa r, K.pa r, .pointer (some ⟨r, 5, none⟩)] ?_)))))))))
 refine K.d (K.iv 8) ((hS.blk 0 rfl hgp2).cell rfl) ?_
 refine K.q [.bool false] (K.z (K.t (K.f (K.k (K.t (K.s (K.s (K.g (K.q [K.pa r, K.pa r, .pointer (some ⟨r, 5, none⟩)] ?_)))))))))
 refine K.d (K.iv 8) ((hS.blk 0 rfl hgp2).cell rfl) ?_
 refine K.q [.bool false] (K.z (K.t (K.f (K.k (K.t (K.s (K.s (K.g (K.q [K.pa r, K.pa r, .pointer (some ⟨r, 5, none⟩)] ?_)))))))))
 refine K.d (K.iv 8) ((hS.blk 0 rfl hgp2).cell rfl) ?_
 refine K.q [.bool false] (K.z (K.t (K.f (K.k (K.t (K.s (K.s (K.g (K.q [K.pa r, K.pa r, .pointer (some ⟨r, 5, none⟩)] ?_)))))))))
 refine K.d (K.iv 8) ((hS.blk 0 rfl hgp2).cell rfl) ?_
 refine K.q [.bool false] (K.z (K.t (K.f (K.k (K.t (K.s (K.s (K.g (K.q [K.pa r, K.pa r, .pointer (some ⟨r, 5, none⟩)] ?_)))))))))
 refine K.d (K.iv 8) ((hS.blk 0 rfl hgp2).cell rfl) ?_
 refine K.q [.bool true] (K.z (K.t (K.h ?_)))
 refine K.KW.gdrawn [0] hS (by kernel_rfl) ?_
 clear hS; intro w hS
 refine K.p 0 rfl (K.pa r) (hS.pick [0]) ?_
 refine K.p 1 rfl (K.pa pm) (hS.pick [0]) ?_
 refine K.p 2 rfl (K.pa r) (hS.pick [0]) ?_
 refine K.p 3 rfl (K.pa r) (hS.pick [0]) ?_
 refine K.p 4 rfl (.pointer (some ⟨r, 4, none⟩)) (hS.pick [0]) ?_
 refine K.o_ 5 rfl (K.iv S.t) (fun w hS => ((hS.blk 0 rfl hgp2).cell rfl)) (hS.pick [0]) ?_
 refine K.p 6 rfl (K.pa r) (hS.pick [0]) ?_
 refine K.p 7 rfl (K.pa r) (hS.pick [0]) ?_
 refine K.p 8 rfl (K.pa r) (hS.pick [0]) ?_
 refine K.m 9 rfl (fun w hS => K.QR.ldN [K.iv c.th, K.iv c.sl, K.iv c.lo, K.iv c.bu] rfl rfl (by kernel_rfl) (by kernel_rfl) (K.cells (K.cl ((hS.blk 0 rfl hgp2).cell rfl) (K.cl ((hS.blk 0 rfl hgp2).cell rfl) (K.cl ((hS.blk 0 rfl hgp2).cell rfl) (K.cl ((hS.blk 0 rfl hgp2).cell rfl) K.cl0)))))) (hS.pick [0]) ?_
 refine K.b 10 rfl (K.pa r) (hS.pick [0]) ?_
 refine K.b 11 rfl (K.pa r) (hS.pick [0]) ?_
 refine K.b 12 rfl (.pointer (some ⟨r, 6, none⟩)) (hS.pick [0]) ?_
 refine K.c 13 rfl (K.QR.ld1 (v := K.iv S.slot) rfl rfl (by kernel_rfl) ((hS.blk 0 rfl hgp2).cell rfl)) (hS.pick [0]) ?_
 refine K.DW.l 14 rfl (by kernel_rfl) rfl (K.OW.gcall hS [] [0, 1, 2] [.agg #[K.iv c.th, K.iv c.sl, K.iv c.lo, K.iv c.bu], K.iv 9, K.iv S.slot] (r12gen_ok _ c (by first | assumption | (unfold cfgOk; decide)) S.slot) ?_)
 clear hS; rintro _ _ w ⟨rfl, rfl⟩ hS
 replace hS : K.Sat w0 [gp, l, fr] w := hS
 refine ⟨.inl (hS.pick [0]), ?_⟩
 refine K.DW.l 15 rfl (by kernel_rfl) rfl (K.OW.gcall hS [1] [0, 2] [K.pa pm, K.iv 1, K.iv S.t, K.iv (genS c S.slot), .int .u64 0, .int .u64 0] (rmDo1_ok _ _ _ _ _ _ _ x S.t (genS c S.slot) (0 : Int) (0 : Int) (by omega) (by first | omega | assumption | exact log_int (by assumption) _ _ | exact int_int (by assumption) _ | exact gen_int (by assumption) _ | exact aft_int (by assumption) _ | exact ann_int (by assumption) _ (by omega))) ?_)
 clear hS; rintro _ _ w ⟨l_1, rfl, rfl, x_2⟩ hS
 replace hS : K.Sat w0 [l_1, gp, fr] w := hS
 have hw_3 : isW (M.accL n S.t (genS c S.slot)).2.old := (accL_good (by assumption)).2
 refine ⟨.inl (hS.pick [1]), ?_⟩
 refine K.b 16 rfl (.int .u64 ((M.accL n S.t (genS c S.slot)).2.old)) (hS.pick [1]) ?_
 refine K.b 17 rfl (K.pa r) (hS.pick [1]) ?_
 refine K.b 18 rfl (.pointer (some ⟨r, 7, none⟩)) (hS.pick [1]) ?_
 refine K.DW.l 19 rfl (by kernel_rfl) rfl (K.OW.gst 1 [.int .u64 ((M.accL n S.t (genS c S.slot)).2.old)] _ hS hgp2 ?_)
 clear hS; intro w g_4 hg_5 hS
 replace hS : K.Sat w0 [l_1, g_4, fr] w := hS
 refine ⟨.inr (by kernel_rfl), ?_⟩
 refine K.DW.done (by kernel_rfl) ?_
 refine K.t (K.s (K.s (K.g (K.q [K.pa r, K.pa r, .pointer (some ⟨r, 5, none⟩)] ?_))))
 refine K.d (K.iv 8) ((hS.blk 1 rfl hg_5).cell rfl) ?_
 refine K.q [.bool false] (K.z (K.t (K.f (K.k (K.t (K.g (K.q [K.pa r, K.pa r, K.pa r, .pointer (some ⟨r, 5, none⟩)] ?_)))))))
 refine K.d (K.iv 8) ((hS.blk 1 rfl hg_5).cell rfl) ?_
 refine K.q [K.iv 9, K.iv 9, K.pa r, .pointer (some ⟨r, 5, none⟩)] ?_
 refine K.l (K.OW.gst 1 [K.iv 9] _ hS hg_5 ?_)
 clear hS; intro w g_6 hg_7 hS
 replace hS : K.Sat w0 [l_1, g_6, fr] w := hS
 refine K.z ?_
 refine ⟨.inl rfl, rfl, (.tuple #[]), K.res0 rfl, [g_6, l_1], ?_, hS.pick [1, 0, 2]⟩
 exact ⟨_, _, rfl, rfl, by rw [tkS8 hp]; exact hg_7, by rw [tkS8 hp]; exact x_2⟩
set_option maxHeartbeats 1000000 in
set_option maxRecDepth 100000 in
theorem rtSt9_ok (w0 : World) (r pm q n t : Nat) (c : Cfg) (hc : cfgOk c) (S : TkS) (D : DM) (M : MemM) (gp l : K.Cs) (hgp : gp = rtkPt r c S D) (x : RMemAt l pm q n t M) (hM : M.good) (hS : S.good c) (hp : S.part = 9) :
  K.GC Tryz.prog w0 44 #[K.pa r, K.pa pm] [gp, l] (fun v post => ∃ gp' l', v = .tuple #[] ∧ post = [gp', l'] ∧ gp' = rtkPt r c (tkStep c n t S M).1 D ∧ RMemAt l' pm q n t (tkStep c n t S M).2) := by
 have hS0 := hS
 have hSt := hS.t; have hSs := hS.slot; have hSg := hS.gen; have hSp := hS.pop; have hSa := hS.adv; have hsp := hS.sp; have hag := hS.ag
 have hgp2 : gp = rtkPt r c (tkTo S 9) D := by rw [tkTo_self hp]; exact hgp
 refine K.GC.mk (n := 183) Tryz.func44 rfl rfl [K.pa r, K.pa pm] rfl rfl ?_
 intro fr w hS
 replace hS : K.Sat w0 [gp, l, fr] w := hS
 refine K.s ?_
 refine K.KW.gdrawn [0] hS (by kernel_rfl) ?_
 clear hS; intro w hS
 refine K.p 0 rfl (K.pa r) (hS.pick [0]) ?_
 refine K.p 1 rfl (K.pa r) (hS.pick [0]) ?_
 refine K.p 2 rfl (K.pa r) (hS.pick [0]) ?_
 refine K.m 3 rfl (fun w hS => K.QR.ldN [K.iv c.th, K.iv c.sl, K.iv c.lo, K.iv c.bu] rfl rfl (by kernel_rfl) (by kernel_rfl) (K.cells (K.cl ((hS.blk 0 rfl hgp2).cell rfl) (K.cl ((hS.blk 0 rfl hgp2).cell rfl) (K.cl ((hS.blk 0 rfl hgp2).cell rfl) (K.cl ((hS.blk 0 rfl hgp2).cell rfl) K.cl0)))))) (hS.pick [0]) ?_
 refine K.b 4 rfl (K.pa r) (hS.pick [0]) ?_
 refine K.b 5 rfl (K.pa r) (hS.pick [0]) ?_
 refine K.b 6 rfl (.pointer (some ⟨r, 4, none⟩)) (hS.pick [0]) ?_
 refine K.c 7 rfl (K.QR.ld1 (v := K.iv S.t) rfl rfl (by kernel_rfl) ((hS.blk 0 rfl hgp2).cell rfl)) (hS.pick [0]) ?_
 refine K.DW.l 8 rfl (by kernel_rfl) rfl (K.OW.gcall hS [] [0, 1, 2] [.agg #[K.iv c.th, K.iv c.sl, K.iv c.lo, K.iv c.bu], K.iv 7, K.iv S.t] (r12int2_ok _ c (by first | assumption | (unfold cfgOk; decide)) S.t) ?_)
 clear hS; rintro _ _ w ⟨rfl, rfl⟩ hS
 replace hS : K.Sat w0 [gp, l, fr] w := hS
 refine ⟨.inl (hS.pick [0]), ?_⟩
 refine K.b 9 rfl (K.iv (intS c S.t)) (hS.pick [0]) ?_
 refine K.DW.done (by kernel_rfl) ?_
 refine K.t (K.s (K.s (K.g (K.q [K.pa r, K.pa r, .pointer (some ⟨r, 5, none⟩)] ?_))))
 refine K.d (K.iv 9) ((hS.blk 0 rfl hgp2).cell rfl) ?_
 refine K.q [.bool false, .bool false, K.pa r, K.pa r, .pointer (some ⟨r, 5, none⟩)] ?_
 refine K.d (K.iv 9) ((hS.blk 0 rfl hgp2).cell rfl) ?_
 refine K.q [.bool false, .bool false] (K.z (K.t (K.f (K.k (K.t (K.s (K.s (K.g (K.q [K.pa r, K.pa r, .pointer (some ⟨r, 5, none⟩)] ?_)))))))))
 refine K.d (K.iv 9) ((hS.blk 0 rfl hgp2).cell rfl) ?_
 refine K.q [.bool false] (K.z (K.t (K.f (K.k (K.t (K.s (K.s (K.g (K.q [K.pa r, K.pa r, .pointer (some ⟨r, 5, none⟩)] ?_)))))))))
 refine K.d (K.iv 9) ((hS.blk 0 rfl hgp2).cell rfl) ?_
 refine K.q [.bool false] (K.z (K.t (K.f (K.k (K.t (K.s (K.s (K.g (K.q [K.pa r, K.pa r, .pointer (some ⟨r, 5, none⟩)] ?_)))))))))
 refine K.d (K.iv 9) ((hS.blk 0 rfl hgp2).cell rfl) ?_
 refine K.q [.bool false] (K.z (K.t (K.f (K.k (K.t (K.s (K.s (K.g (K.q [K.pa r, K.pa r, .pointer (some ⟨r, 5, none⟩)] ?_)))))))))
 refine K.d (K.iv 9) ((hS.blk 0 rfl hgp2).cell rfl) ?_
 refine K.q [.bool false] (K.z (K.t (K.f (K.k (K.t (K.s (K.s (K.g (K.q [K.pa r, K.pa r, .pointer (some ⟨r, 5, none⟩)] ?_)))))))))
 refine K.d (K.iv 9) ((hS.blk 0 rfl hgp2).cell rfl) ?_
 refine K.q [.bool false] (K.z (K.t (K.f (K.k (K.t (K.s (K.s (K.g (K.q [K.pa r, K.pa r, .pointer (some ⟨r, 5, none⟩)] ?_)))))))))
 refine K.d (K.iv 9) ((hS.blk 0 rfl hgp2).cell rfl) ?_
 refine K.q [.bool false] (K.z (K.t (K.f (K.k (K.t (K.s (K.s (K.g (K.q [K.pa r, K.pa r, .pointer (some ⟨r, 5, none⟩)] ?_)))))))))
 refine K.d (K.iv 9) ((hS.blk 0 rfl hgp2).cell rfl) ?_
 refine K.q [.bool false] (K.z (K.t (K.f (K.k (K.t (K.s (K.s (K.g (K.q [K.pa r, K.pa r, .pointer (some ⟨r, 5, none⟩)] ?_)))))))))
 refine K.d (K.iv 9) ((hS.blk 0 rfl hgp2).cell rfl) ?_
 refine K.q [.bool true] (K.z (K.t (K.h ?_)))
 refine K.KW.gdrawn [0] hS (by kernel_rfl) ?_
 clear hS; intro w hS
 refine K.p 0 rfl (K.pa pm) (hS.pick [0]) ?_
 refine K.p 1 rfl (K.pa r) (hS.pick [0]) ?_
 refine K.p 2 rfl (K.pa r) (hS.pick [0]) ?_
 refine K.p 3 rfl (.pointer (some ⟨r, 4, none⟩)) (hS.pick [0]) ?_
 refine K.o_ 4 rfl (K.iv S.t) (fun w hS => ((hS.blk 0 rfl hgp2).cell rfl)) (hS.pick [0]) ?_
 refine K.p 5 rfl (K.pa r) (hS.pick [0]) ?_
 refine K.p 6 rfl (K.pa r) (hS.pick [0]) ?_
 refine K.p 7 rfl (K.pa r) (hS.pick [0]) ?_
 refine K.m 8 rfl (fun w hS => K.QR.ldN [K.iv c.th, K.iv c.sl, K.iv c.lo, K.iv c.bu] rfl rfl (by kernel_rfl) (by kernel_rfl) (K.cells (K.cl ((hS.blk 0 rfl hgp2).cell rfl) (K.cl ((hS.blk 0 rfl hgp2).cell rfl) (K.cl ((hS.blk 0 rfl hgp2).cell rfl) (K.cl ((hS.blk 0 rfl hgp2).cell rfl) K.cl0)))))) (hS.pick [0]) ?_
 refine K.p 9 rfl (K.pa r) (hS.pick [0]) ?_
 refine K.p 10 rfl (K.pa r) (hS.pick [0]) ?_
 refine K.p 11 rfl (.pointer (some ⟨r, 6, none⟩)) (hS.pick [0]) ?_
 refine K.o_ 12 rfl (K.iv S.slot) (fun w hS => ((hS.blk 0 rfl hgp2).cell rfl)) (hS.pick [0]) ?_
 refine K.p 14 rfl (K.pa r) (hS.pick [0]) ?_
 refine K.p 15 rfl (K.pa r) (hS.pick [0]) ?_
 refine K.p 16 rfl (.pointer (some ⟨r, 7, none⟩)) (hS.pick [0]) ?_
 refine K.o_ 17 rfl (.int .u64 S.gen) (fun w hS => ((hS.blk 0 rfl hgp2).cell rfl)) (hS.pick [0]) ?_
 refine K.m 18 rfl (fun w hS => K.QR.turn (v := .int .u64 (IntKind.u64.wrap ((S.gen : Int) + (1 : Int)))) (K.QR.k (v := .int .u64 (IntKind.u64.wrap ((S.gen : Int) + (1 : Int)))) (by kernel_rfl)) (congrArg (Value.int .u64) (show (IntKind.u64.wrap ((S.gen : Int) + (1 : Int)) : Int) = (inc64 S.gen : Int) from wrapU _))) (hS.pick [0]) ?_
 refine K.DW.l 13 rfl (by kernel_rfl) rfl (K.OW.gcall hS [] [0, 1, 2] [.agg #[K.iv c.th, K.iv c.sl, K.iv c.lo, K.iv c.bu], K.iv 9, K.iv S.slot] (r12gen_ok _ c (by first | assumption | (unfold cfgOk; decide)) S.slot) ?_)
 clear hS; rintro _ _ w ⟨rfl, rfl⟩ hS
 replace hS : K.Sat w0 [gp, l, fr] w := hS
 refine ⟨.inl (hS.pick [0]), ?_⟩
 refine K.DW.l 19 rfl (by kernel_rfl) rfl (K.OW.gcall hS [1] [0, 2] [K.pa pm, K.iv 2, K.iv S.t, K.iv (genS c S.slot), .int .u64 0, .int .u64 (inc64 S.gen)] (rmDo2_ok _ _ _ _ _ _ _ x S.t (genS c S.slot) (0 : Int) (inc64 S.gen) (by omega) (by first | omega | assumption | exact log_int (by assumption) _ _ | exact int_int (by assumption) _ | exact gen_int (by assumption) _ | exact aft_int (by assumption) _ | exact ann_int (by assumption) _ (by omega))) ?_)
 clear hS; rintro _ _ w ⟨l_1, rfl, rfl, x_2⟩ hS
 replace hS : K.Sat w0 [l_1, gp, fr] w := hS
 refine ⟨.inl (hS.pick [1]), ?_⟩
 refine K.DW.done (by kernel_rfl) ?_
 refine K.t (K.g (K.q [K.pa r, K.pa r, K.pa r, .pointer (some ⟨r, 5, none⟩)] ?_))
 refine K.d (K.iv 9) ((hS.blk 1 rfl hgp2).cell rfl) ?_
 refine K.q [K.iv 10, K.iv 0, K.pa r, .pointer (some ⟨r, 5, none⟩)] ?_
 refine K.l (K.OW.gst 1 [K.iv 0] _ hS hgp2 ?_)
 clear hS; intro w g_3 hg_4 hS
 replace hS : K.Sat w0 [l_1, g_3, fr] w := hS
 refine K.z ?_
 refine ⟨.inl rfl, rfl, (.tuple #[]), K.res0 rfl, [g_3, l_1], ?_, hS.pick [1, 0, 2]⟩
 exact ⟨_, _, rfl, rfl, by rw [tkS9 hp]; exact hg_4, by rw [tkS9 hp]; exact x_2⟩
set_option maxHeartbeats 1000000 in
set_option maxRecDepth 100000 in
theorem rnewtk_ok (w0 : World) (c : Cfg) (tt : Int) :
  K.GC Tryz.prog w0 43 #[.agg #[K.iv c.th, K.iv c.sl, K.iv c.lo, K.iv c.bu], K.iv tt] [] (fun v post => ∃ r g, v = K.pa r ∧ post = [g] ∧ g = rtkPt r c (tkInit tt) (dm0 tt)) := by
 refine K.GC.mk (n := 29) Tryz.func43 rfl rfl [.agg #[K.iv c.th, K.iv c.sl, K.iv c.lo, K.iv c.bu], K.iv tt] rfl rfl ?_
 intro fr w hS
 replace hS : K.Sat w0 [fr] w := hS
 refine K.s (K.g ?_)
 refine K.l (K.OW.gnew 23 [K.iv c.th, K.iv c.sl, K.iv c.lo, K.iv c.bu] hS ?_)
 clear hS; intro w r_1 g_2 hg_3 hS
 refine K.q [.pointer none] (K.z (K.t (K.s (K.g ?_))))
 refine K.a (K.QR.ldN [K.iv c.th, K.iv c.sl, K.iv c.lo, K.iv c.bu] rfl rfl (by kernel_rfl) (by kernel_rfl) (K.cells (K.cl ((hS.blk 0 rfl hg_3).cell rfl) (K.cl ((hS.blk 0 rfl hg_3).cell rfl) (K.cl ((hS.blk 0 rfl hg_3).cell rfl) (K.cl ((hS.blk 0 rfl hg_3).cell rfl) K.cl0)))))) ?_
 refine K.q [K.iv tt] ?_
 refine K.a (K.QR.bd [(0, .agg #[K.iv c.th, K.iv c.sl, K.iv c.lo, K.iv c.bu]), (1, K.iv tt), (2, K.iv 1), (3, K.iv (-1)), (5, K.iv (-1))] [K.iv c.th, K.iv c.sl, K.iv c.lo, K.iv c.bu, K.iv tt, K.iv 1, K.iv (-1), .int .u64 0, K.iv (-1), K.iv 0, K.iv 0, K.iv 0, K.iv 0, K.iv 0, K.iv 0, .int .u64 0, .int .u64 0, K.iv 0, K.iv 0, K.iv 0, K.iv 0, K.iv 0, K.iv 0, K.iv 0, K.iv 0, .int .u64 0, .bool false, K.iv 0, K.iv 0, K.iv 0, K.iv 0, K.iv 0, K.iv 0, K.iv 0, K.iv 0, K.iv 0, K.iv 0, .int .u64 0, K.iv 0, K.iv 0, K.iv 0, K.iv 0, K.iv 0, K.iv 0, K.iv 0, K.iv 0, .int .u64 0, K.iv 0] rfl rfl (by kernel_rfl)) ?_
 refine K.l (K.OW.gnew 95 [K.iv c.th, K.iv c.sl, K.iv c.lo, K.iv c.bu, K.iv tt, K.iv 1, K.iv (-1), .int .u64 0, K.iv (-1), K.iv 0, K.iv 0, K.iv 0, K.iv 0, K.iv 0, K.iv 0, .int .u64 0, .int .u64 0, K.iv 0, K.iv 0, K.iv 0, K.iv 0, K.iv 0, K.iv 0, K.iv 0, K.iv 0, .int .u64 0, .bool false, K.iv 0, K.iv 0, K.iv 0, K.iv 0, K.iv 0, K.iv 0, K.iv 0, K.iv 0, K.iv 0, K.iv 0, .int .u64 0, K.iv 0, K.iv 0, K.iv 0, K.iv 0, K.iv 0, K.iv 0, K.iv 0, K.iv 0, .int .u64 0, K.iv 0] hS ?_)
 clear hS; intro w r_4 g_5 hg_6 hS
 refine K.q [K.pa r_4] (K.z (K.t (K.s (K.g (K.q [K.pa r_4] ?_)))))
 refine K.a (K.QR.ldN [K.iv c.th, K.iv c.sl, K.iv c.lo, K.iv c.bu] rfl rfl (by kernel_rfl) (by kernel_rfl) (K.cells (K.cl ((hS.blk 1 rfl hg_3).cell rfl) (K.cl ((hS.blk 1 rfl hg_3).cell rfl) (K.cl ((hS.blk 1 rfl hg_3).cell rfl) (K.cl ((hS.blk 1 rfl hg_3).cell rfl) K.cl0)))))) ?_
 refine K.q [K.iv tt] ?_
 refine K.a (K.QR.bd [(0, .agg #[K.iv c.th, K.iv c.sl, K.iv c.lo, K.iv c.bu]), (1, K.iv tt), (2, K.iv 1), (5, K.iv (-1))] [K.iv c.th, K.iv c.sl, K.iv c.lo, K.iv c.bu, K.iv tt, K.iv 1, .int .u64 0, .int .u64 0, K.iv (-1)] rfl rfl (by kernel_rfl)) ?_
 refine K.q [K.pa r_4, .pointer (some ⟨r_4, 9, none⟩)] ?_
 refine K.l (K.OW.gst 0 [K.iv c.th, K.iv c.sl, K.iv c.lo, K.iv c.bu, K.iv tt, K.iv 1, .int .u64 0, .int .u64 0, K.iv (-1)] _ hS hg_6 ?_)
 clear hS; intro w g_7 hg_8 hS
 replace hS : K.Sat w0 [g_7, g_2, fr] w := hS
 refine K.z (K.t (K.s (K.g (K.q [K.pa r_4] ?_))))
 refine K.a (K.QR.ldN [K.iv c.th, K.iv c.sl, K.iv c.lo, K.iv c.bu] rfl rfl (by kernel_rfl) (by kernel_rfl) (K.cells (K.cl ((hS.blk 1 rfl hg_3).cell rfl) (K.cl ((hS.blk 1 rfl hg_3).cell rfl) (K.cl ((hS.blk 1 rfl hg_3).cell rfl) (K.cl ((hS.blk 1 rfl hg_3).cell rfl) K.cl0)))))) ?_
 refine K.q [K.iv tt] ?_
 refine K.a (K.QR.bd [(0, .agg #[K.iv c.th, K.iv c.sl, K.iv c.lo, K.iv c.bu]), (1, K.iv tt), (2, K.iv 2), (3, K.iv 1)] [K.iv c.th, K.iv c.sl, K.iv c.lo, K.iv c.bu, K.iv tt, K.iv 2, K.iv 1, .int .u64 0, .bool false] rfl rfl (by kernel_rfl)) ?_
 refine K.q [K.pa r_4, .pointer (some ⟨r_4, 18, none⟩)] ?_
 refine K.l (K.OW.gst 0 [K.iv c.th, K.iv c.sl, K.iv c.lo, K.iv c.bu, K.iv tt, K.iv 2, K.iv 1, .int .u64 0, .bool false] _ hS hg_8 ?_)
 clear hS; intro w g_9 hg_10 hS
 replace hS : K.Sat w0 [g_9, g_2, fr] w := hS
 refine K.z (K.t (K.s (K.g (K.q [K.pa r_4] ?_))))
 refine K.a (K.QR.ldN [K.iv c.th, K.iv c.sl, K.iv c.lo, K.iv c.bu] rfl rfl (by kernel_rfl) (by kernel_rfl) (K.cells (K.cl ((hS.blk 1 rfl hg_3).cell rfl) (K.cl ((hS.blk 1 rfl hg_3).cell rfl) (K.cl ((hS.blk 1 rfl hg_3).cell rfl) (K.cl ((hS.blk 1 rfl hg_3).cell rfl) K.cl0)))))) ?_
 refine K.q [K.iv tt] ?_
 refine K.a (K.QR.bd [(0, .agg #[K.iv c.th, K.iv c.sl, K.iv c.lo, K.iv c.bu]), (1, K.iv tt), (2, K.iv 3), (3, K.iv 1), (6, K.iv (-1)), (8, K.iv (-1))] [K.iv c.th, K.iv c.sl, K.iv c.lo, K.iv c.bu, K.iv tt, K.iv 3, K.iv 1, K.iv 0, K.iv 0, K.iv (-1), .int .u64 0, K.iv (-1), K.iv 0, K.iv 0, K.iv 0, K.iv 0, K.iv 0, K.iv 0, K.iv 0, .int .u64 0, K.iv 0] rfl rfl (by kernel_rfl)) ?_
 refine K.q [K.pa r_4, .pointer (some ⟨r_4, 27, none⟩)] ?_
 refine K.l (K.OW.gst 0 [K.iv c.th, K.iv c.sl, K.iv c.lo, K.iv c.bu, K.iv tt, K.iv 3, K.iv 1, K.iv 0, K.iv 0, K.iv (-1), .int .u64 0, K.iv (-1), K.iv 0, K.iv 0, K.iv 0, K.iv 0, K.iv 0, K.iv 0, K.iv 0, .int .u64 0, K.iv 0] _ hS hg_10 ?_)
 clear hS; intro w g_11 hg_12 hS
 replace hS : K.Sat w0 [g_11, g_2, fr] w := hS
 refine K.z (K.t (K.s (K.g (K.q [K.pa r_4, K.pa r_4] (K.z (K.t (K.r ?_)))))))
 refine ⟨.inr rfl, rfl, (K.pa r_4), K.res1 rfl rfl, [g_11], ?_, hS.pick [0, 2]⟩
 exact ⟨_, _, rfl, rfl, hg_12⟩
set_option maxHeartbeats 1000000 in
set_option maxRecDepth 100000 in
theorem rtHolds_ok (w0 : World) (r : Nat) (c : Cfg) (S : TkS) (D : DM) (gp : K.Cs) (hgp : gp = rtkPt r c S D) :
  K.GC Tryz.prog w0 46 #[K.pa r] [gp] (fun v post => v = K.iv (if S.part ≥ 5 ∨ S.part = 0 ∧ S.slot ≥ 0 then S.slot else D.holds) ∧ post = [gp]) := by
 refine K.GC.mk (n := 31) Tryz.func46 rfl rfl [K.pa r] rfl rfl ?_
 intro fr w hS
 replace hS : K.Sat w0 [gp, fr] w := hS
 refine K.s (K.g (K.q [K.iv 0] (K.z (K.t (K.s (K.s (K.g (K.q [K.pa r, K.pa r, .pointer (some ⟨r, 5, none⟩)] ?_))))))))
 refine K.d (K.iv S.part) ((hS.blk 0 rfl hgp).cell rfl) ?_
 by_cases h_1 : (S.part : Int) ≥ (5 : Int)
 ·
  refine K.y ((S.part : Int) ≥ (5 : Int)) h_1 ?_
  refine K.q [.bool true] (K.n_ (K.n_ (K.n_ (K.n_ (K.n_ (K.n_ (K.n_ (K.n_ (K.n_ (K.n_ (K.n_ (K.n_ (K.q [.bool true] (K.z ?_))))))))))))))
  refine K.t (K.h (K.s (K.g (K.q [K.pa r, K.pa r, .pointer (some ⟨r, 6, none⟩)] ?_))))
  refine K.d (K.iv S.slot) ((hS.blk 0 rfl hgp).cell rfl) ?_
  refine K.q [K.iv S.slot] (K.z (K.t (K.r (K.u ?_))))
  refine ⟨.inr rfl, rfl, (K.iv S.slot), K.res1 rfl rfl, [gp], ?_, hS.pick [0, 1]⟩
  exact ⟨by rw [if_pos (by omega)], rfl⟩
 ·
  refine K.x ((S.part : Int) ≥ (5 : Int)) h_1 ?_
  refine K.q [.bool false, K.pa r, K.pa r, .pointer (some ⟨r, 5, none⟩)] ?_
  refine K.d (K.iv S.part) ((hS.blk 0 rfl hgp).cell rfl) ?_
  by_cases h_2 : (S.part : Int) = (0 : Int)
  ·
   refine K.ye (S.part : Int) (0 : Int) h_2 ?_
   refine K.q [.bool true, K.pa r, K.pa r, .pointer (some ⟨r, 6, none⟩)] ?_
   refine K.d (K.iv S.slot) ((hS.blk 0 rfl hgp).cell rfl) ?_
   by_cases h_3 : (S.slot : Int) ≥ (0 : Int)
   ·
    refine K.y ((S.slot : Int) ≥ (0 : Int)) h_3 ?_
    refine K.q [.bool true, .bool true] (K.z (K.t (K.h (K.s (K.g (K.q [K.pa r, K.pa r, .pointer (some ⟨r, 6, none⟩)] ?_))))))
    refine K.d (K.iv S.slot) ((hS.blk 0 rfl hgp).cell rfl) ?_
    refine K.q [K.iv S.slot] (K.z (K.t (K.r (K.u ?_))))
    refine ⟨.inr rfl, rfl, (K.iv S.slot), K.res1 rfl rfl, [gp], ?_, hS.pick [0, 1]⟩
    exact ⟨by rw [if_pos (by omega)], rfl⟩
   ·
    refine K.x ((S.slot : Int) ≥ (0 : Int)) h_3 ?_
    refine K.q [.bool false, .bool false] (K.z (K.t (K.f (K.k (K.t (K.s (K.g (K.q [K.pa r, K.pa r, .pointer (some ⟨r, 27, none⟩), .pointer (some ⟨r, 38, none⟩)] ?_))))))))
    refine K.d (K.iv D.holds) ((hS.blk 0 rfl hgp).cell rfl) ?_
    refine K.q [K.iv D.holds] (K.z (K.t (K.r ?_)))
    refine ⟨.inr rfl, rfl, (K.iv D.holds), K.res1 rfl rfl, [gp], ?_, hS.pick [0, 1]⟩
    exact ⟨by rw [if_neg (by omega)], rfl⟩
  ·
   refine K.xe (S.part : Int) (0 : Int) h_2 ?_
   refine K.q [.bool false] (K.n_ (K.n_ (K.n_ (K.n_ (K.n_ (K.q [.bool false, .bool false] (K.z (K.t (K.f (K.k (K.t (K.s (K.g (K.q [K.pa r, K.pa r, .pointer (some ⟨r, 27, none⟩), .pointer (some ⟨r, 38, none⟩)] ?_))))))))))))))
   refine K.d (K.iv D.holds) ((hS.blk 0 rfl hgp).cell rfl) ?_
   refine K.q [K.iv D.holds] (K.z (K.t (K.r ?_)))
   refine ⟨.inr rfl, rfl, (K.iv D.holds), K.res1 rfl rfl, [gp], ?_, hS.pick [0, 1]⟩
   exact ⟨by rw [if_neg (by omega)], rfl⟩
end Go.Proofs.YtbfafebfkdbglaaGreat
