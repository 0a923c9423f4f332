import Derived.Test.YtbfafebfkdbglaaGreatFr12b
import Derived.Test.YtbfafebfkdbglaaGreatFlist
/- Layer 12: the document's Reclaim, inside a Take. -/
namespace Go.Proofs.YtbfafebfkdbglaaGreat
open Go.RowKit
set_option linter.unusedVariables false
attribute [local irreducible] K.KW K.RW K.DW K.OW K.QR K.KC
set_option maxHeartbeats 1000000 in
set_option maxRecDepth 100000 in
theorem rstamp_ok (w0 : World) (x : Int) (hx : isW x) :
  K.GC Tryz.prog w0 179 #[.int .u64 x] [] (fun v post => v = K.iv (stampI x) ∧ post = []) := by
 have hx2 := hx
 unfold isW at hx2
 refine K.GC.mk (n := 7) Tryz.func179 rfl rfl [.int .u64 x] rfl rfl ?_
 intro fr w hS
 replace hS : K.Sat w0 [fr] w := hS
 refine K.s (K.g (K.q [K.iv 0] (K.z (K.t (K.s (K.g (K.q [.int .u64 x] ?_)))))))
 refine K.a (K.QR.quou64 (x : Int) 4294967296 ((x : Int) / 4294967296) (by kernel_rfl) (by omega) (by omega)) ?_
 refine K.a (K.QR.nice (v := K.iv (IntKind.i64.wrap ((x : Int) / 4294967296))) (by kernel_rfl) (congrArg (Value.int .i64) (IntWalk.i64_in _ (by omega)))) ?_
 refine K.a (K.QR.n64 (((x : Int) / 4294967296 : Int) + ((-1) : Int)) (((x : Int) / 4294967296 : Int) + ((-1) : Int)) (by kernel_rfl) (by omega)) ?_
 refine K.q [K.iv (((x : Int) / 4294967296 : Int) + ((-1) : Int))] (K.z (K.t (K.r ?_)))
 refine ⟨.inr rfl, rfl, (K.iv (((x : Int) / 4294967296 : Int) + ((-1) : Int))), K.res1 rfl rfl, [], ?_, hS.pick [0]⟩
 exact ⟨congrArg (Value.int .i64) (by unfold stampI; omega), rfl⟩
set_option maxHeartbeats 1000000 in
set_option maxRecDepth 100000 in
theorem rtOn_ok (w0 : World) (r : Nat) (c : Cfg) (hc : cfgOk c) (S : TkS) (D : DM) (gp : K.Cs) (hgp : gp = rtkPt r c S D) (hn : -100 ≤ D.n ∧ D.n ≤ 100) :
  K.GC Tryz.prog w0 180 #[.pointer (some ⟨r, 27, none⟩)] [gp] (fun v post => ∃ gp', v = .tuple #[] ∧ post = [gp'] ∧ gp' = rtkPt r c S (dOn c D)) := by
 refine K.GC.mk (n := 23) Tryz.func180 rfl rfl [.pointer (some ⟨r, 27, none⟩)] rfl rfl ?_
 intro fr w hS
 replace hS : K.Sat w0 [gp, fr] w := hS
 refine K.s (K.g (K.q [.pointer (some ⟨r, 27, none⟩), .pointer (some ⟨r, 27, none⟩), .pointer (some ⟨r, 27, none⟩), .pointer (some ⟨r, 34, none⟩)] ?_))
 refine K.d (K.iv D.n) ((hS.blk 0 rfl hgp).cell rfl) ?_
 refine K.a (K.QR.n64 ((D.n : Int) + (1 : Int)) ((D.n : Int) + (1 : Int)) (by kernel_rfl) (by omega)) ?_
 refine K.q [.pointer (some ⟨r, 27, none⟩), .pointer (some ⟨r, 34, none⟩)] ?_
 refine K.l (K.OW.gst 0 [K.iv ((D.n : Int) + (1 : Int))] _ hS hgp ?_)
 clear hS; intro w g_1 hg_2 hS
 replace hS : K.Sat w0 [g_1, fr] w := hS
 refine K.z (K.t (K.s ?_))
 refine K.KW.gdrawn [0] hS (by kernel_rfl) ?_
 clear hS; intro w hS
 refine K.p 0 rfl (.pointer (some ⟨r, 27, none⟩)) (hS.pick [0]) ?_
 refine K.p 1 rfl (.pointer (some ⟨r, 27, none⟩)) (hS.pick [0]) ?_
 refine K.p 2 rfl (.pointer (some ⟨r, 34, none⟩)) (hS.pick [0]) ?_
 refine K.o_ 3 rfl (K.iv ((D.n : Int) + (1 : Int))) (fun w hS => ((hS.blk 0 rfl hg_2).cell rfl)) (hS.pick [0]) ?_
 refine K.b 4 rfl (.pointer (some ⟨r, 27, none⟩)) (hS.pick [0]) ?_
 refine K.b 5 rfl (.pointer (some ⟨r, 27, none⟩)) (hS.pick [0]) ?_
 refine K.b 6 rfl (.pointer (some ⟨r, 27, none⟩)) (hS.pick [0]) ?_
 refine K.b 7 rfl (.pointer (some ⟨r, 29, none⟩)) (hS.pick [0]) ?_
 refine K.c 8 rfl (K.QR.ld1 (v := K.iv c.lo) rfl rfl (by kernel_rfl) ((hS.blk 0 rfl hg_2).cell rfl)) (hS.pick [0]) ?_
 by_cases h_3 : ((D.n : Int) + (1 : Int) : Int) = (c.lo : Int)
 ·
  refine K.c 9 rfl (K.QR.nice (v := .bool (((D.n : Int) + (1 : Int) : Int) == (c.lo : Int))) (by kernel_rfl) (congrArg Value.bool (beq_iff_eq.2 h_3))) (hS.pick [0]) ?_
  refine K.DW.done (by kernel_rfl) ?_
  refine K.t (K.h (K.g (K.q [.pointer (some ⟨r, 27, none⟩), .pointer (some ⟨r, 27, none⟩), .pointer (some ⟨r, 33, none⟩)] ?_)))
  refine K.l (K.OW.gst 0 [K.iv 0] _ hS hg_2 ?_)
  clear hS; intro w g_4 hg_5 hS
  replace hS : K.Sat w0 [g_4, fr] w := hS
  refine K.z ?_
  refine ⟨.inl rfl, rfl, (.tuple #[]), K.res0 rfl, [g_4], ?_, hS.pick [0, 1]⟩
  exact ⟨_, rfl, rfl, by unfold dOn; rw [if_pos (by omega)]; exact hg_5⟩
 ·
  refine K.c 9 rfl (K.QR.nice (v := .bool (((D.n : Int) + (1 : Int) : Int) == (c.lo : Int))) (by kernel_rfl) (congrArg Value.bool (beq_eq_false_iff_ne.2 h_3))) (hS.pick [0]) ?_
  refine K.DW.done (by kernel_rfl) ?_
  refine K.t (K.f (K.k ?_))
  refine ⟨.inl rfl, rfl, (.tuple #[]), K.res0 rfl, [g_1], ?_, hS.pick [0, 1]⟩
  exact ⟨_, rfl, rfl, by unfold dOn; rw [if_neg (by omega)]; exact hg_2⟩
set_option maxHeartbeats 1000000 in
set_option maxRecDepth 100000 in
theorem rtPush_ok (w0 : World) (r pm q n t : Nat) (c : Cfg) (hc : cfgOk c) (S : TkS) (D : DM) (M : MemM) (gp l : K.Cs) (hgp : gp = rtkPt r c S D) (x : RMemAt l pm q n t M) (hM : M.good) (hD : D.good c) (hpc : D.pc = c) :
  K.GC Tryz.prog w0 106 #[.pointer (some ⟨r, 40, none⟩), K.pa pm] [gp, l] (fun v post => ∃ gp' l', v = .tuple #[] ∧ post = [gp', l'] ∧ gp' = rtkPt r c S ⟨D.t, D.kind, D.line, D.n, D.slot, D.place, D.now, D.holds, D.count, c, (dPush c n D.push M).1⟩ ∧ RMemAt l' pm q n t (dPush c n D.push M).2) := by
 obtain ⟨hDt, hDn, hDs, hDw, hDc, hDpt, hDps, hDpw, hDnb, hDpc⟩ := hD
 have hcc := hc
 unfold cfgOk at hcc
 have hr1 := toI_ge2
 have hpw2 := hDpw
 unfold isW at hpw2
 have hgp2 : gp = rtkPt r c S ⟨D.t, D.kind, D.line, D.n, D.slot, D.place, D.now, D.holds, D.count, c, D.push⟩ := by rw [hgp, ← hpc]
 refine K.GC.mk (n := 83) Tryz.func106 rfl rfl [.pointer (some ⟨r, 40, none⟩), K.pa pm] rfl rfl ?_
 intro fr w hS
 replace hS : K.Sat w0 [gp, l, fr] w := hS
 refine K.s (K.s (K.g (K.q [.pointer (some ⟨r, 40, none⟩), .pointer (some ⟨r, 40, none⟩), .pointer (some ⟨r, 45, none⟩)] ?_)))
 refine K.d (K.iv D.push.line) ((hS.blk 0 rfl hgp2).cell rfl) ?_
 by_cases h_1 : (D.push.line : Int) = (1 : Int)
 ·
  refine K.ye (D.push.line : Int) (1 : Int) h_1 ?_
  refine K.z (K.t (K.h (K.s (K.g (K.q [.pointer (some ⟨r, 40, none⟩), K.pa pm, .pointer (some ⟨r, 40, none⟩), .pointer (some ⟨r, 40, none⟩), .pointer (some ⟨r, 44, none⟩)] ?_)))))
  refine K.d (K.iv D.push.t) ((hS.blk 0 rfl hgp2).cell rfl) ?_
  refine K.l (K.OW.gcall hS [1] [0, 2] [K.pa pm, K.iv 1, K.iv D.push.t, K.iv (-2), .int .u64 0, .int .u64 0] (rmDo1_ok _ _ _ _ _ _ _ x D.push.t ((-2) : Int) (0 : Int) (0 : Int) (by omega) (by first | omega | assumption | exact log_int (by assumption) _ _ | exact int_int (by assumption) _ | exact gen_int (by assumption) _ | exact aft_int (by assumption) _ | exact ann_int (by assumption) _ (by omega))) ?_)
  clear hS; rintro _ _ w ⟨l_2, rfl, rfl, x_3⟩ hS
  replace hS : K.Sat w0 [l_2, gp, fr] w := hS
  have hw_4 : isW (M.accL n D.push.t ((-2) : Int)).2.old := (accL_good (by assumption)).2
  refine K.q [.int .u64 ((M.accL n D.push.t ((-2) : Int)).2.old), .pointer (some ⟨r, 40, none⟩), .pointer (some ⟨r, 46, none⟩)] ?_
  refine K.l (K.OW.gst 1 [.int .u64 ((M.accL n D.push.t ((-2) : Int)).2.old)] _ hS hgp2 ?_)
  clear hS; intro w g_5 hg_6 hS
  replace hS : K.Sat w0 [l_2, g_5, fr] w := hS
  refine K.z (K.t (K.s (K.g (K.q [.pointer (some ⟨r, 40, none⟩), .pointer (some ⟨r, 40, none⟩), .pointer (some ⟨r, 45, none⟩)] ?_))))
  refine K.l (K.OW.gst 1 [K.iv 2] _ hS hg_6 ?_)
  clear hS; intro w g_7 hg_8 hS
  replace hS : K.Sat w0 [l_2, g_7, fr] w := hS
  refine K.z (K.t (K.r (K.u ?_)))
  have e : dPush c n D.push M = (⟨D.push.t, 2, (M.accL n D.push.t ((-2) : Int)).2.old, D.push.slot⟩, ((M.accL n D.push.t ((-2) : Int)).1)) := by unfold dPush; rw [if_pos (by omega)] <;> rfl
  refine ⟨.inr rfl, rfl, (.tuple #[]), K.res0 rfl, [g_7, l_2], ?_, hS.pick [1, 0, 2]⟩
  exact ⟨_, _, rfl, rfl, by rw [e]; exact hg_8, by rw [e]; exact x_3⟩
 ·
  refine K.xe (D.push.line : Int) (1 : Int) h_1 ?_
  refine K.z (K.t (K.f (K.k (K.t (K.s (K.s (K.g (K.q [.pointer (some ⟨r, 40, none⟩), .pointer (some ⟨r, 40, none⟩), .pointer (some ⟨r, 45, none⟩)] ?_))))))))
  refine K.d (K.iv D.push.line) ((hS.blk 0 rfl hgp2).cell rfl) ?_
  by_cases h_9 : (D.push.line : Int) = (2 : Int)
  ·
   refine K.ye (D.push.line : Int) (2 : Int) h_9 ?_
   refine K.z (K.t (K.h (K.s ?_)))
   refine K.KW.gdrawn [0] hS (by kernel_rfl) ?_
   clear hS; intro w hS
   refine K.p 0 rfl (K.pa pm) (hS.pick [0]) ?_
   refine K.p 1 rfl (.pointer (some ⟨r, 40, none⟩)) (hS.pick [0]) ?_
   refine K.p 2 rfl (.pointer (some ⟨r, 40, none⟩)) (hS.pick [0]) ?_
   refine K.p 3 rfl (.pointer (some ⟨r, 44, none⟩)) (hS.pick [0]) ?_
   refine K.o_ 4 rfl (K.iv D.push.t) (fun w hS => ((hS.blk 0 rfl hgp2).cell rfl)) (hS.pick [0]) ?_
   refine K.p 5 rfl (.pointer (some ⟨r, 40, none⟩)) (hS.pick [0]) ?_
   refine K.p 6 rfl (.pointer (some ⟨r, 40, none⟩)) (hS.pick [0]) ?_
   refine K.p 7 rfl (.pointer (some ⟨r, 40, none⟩)) (hS.pick [0]) ?_
   refine K.m 8 rfl (fun w hS => K.QR.ldN [K.iv c.th, K.iv c.sl, K.iv c.lo, K.iv c.bu] rfl rfl (by kernel_rfl) (by kernel_rfl) (K.cells (K.cl ((hS.blk 0 rfl hgp2).cell rfl) (K.cl ((hS.blk 0 rfl hgp2).cell rfl) (K.cl ((hS.blk 0 rfl hgp2).cell rfl) (K.cl ((hS.blk 0 rfl hgp2).cell rfl) K.cl0)))))) (hS.pick [0]) ?_
   refine K.p 9 rfl (.pointer (some ⟨r, 40, none⟩)) (hS.pick [0]) ?_
   refine K.p 10 rfl (.pointer (some ⟨r, 40, none⟩)) (hS.pick [0]) ?_
   refine K.p 11 rfl (.pointer (some ⟨r, 47, none⟩)) (hS.pick [0]) ?_
   refine K.o_ 12 rfl (K.iv D.push.slot) (fun w hS => ((hS.blk 0 rfl hgp2).cell rfl)) (hS.pick [0]) ?_
   refine K.p 14 rfl (.pointer (some ⟨r, 40, none⟩)) (hS.pick [0]) ?_
   refine K.p 15 rfl (.pointer (some ⟨r, 40, none⟩)) (hS.pick [0]) ?_
   refine K.p 16 rfl (.pointer (some ⟨r, 46, none⟩)) (hS.pick [0]) ?_
   refine K.o_ 17 rfl (.int .u64 D.push.top) (fun w hS => ((hS.blk 0 rfl hgp2).cell rfl)) (hS.pick [0]) ?_
   refine K.m 18 rfl (fun w hS => K.QR.remu64 (D.push.top : Int) 4294967296 ((D.push.top : Int) % 4294967296) (by kernel_rfl) (by omega) (by omega)) (hS.pick [0]) ?_
   refine K.DW.l 13 rfl (by kernel_rfl) rfl (K.OW.gcall hS [] [0, 1, 2] [.agg #[K.iv c.th, K.iv c.sl, K.iv c.lo, K.iv c.bu], K.iv D.push.slot] (rafter_ok _ c (by assumption) D.push.slot) ?_)
   clear hS; rintro _ _ w ⟨rfl, rfl⟩ hS
   replace hS : K.Sat w0 [gp, l, fr] w := hS
   refine ⟨.inl (hS.pick [0]), ?_⟩
   refine K.DW.l 19 rfl (by kernel_rfl) rfl (K.OW.gcall hS [1] [0, 2] [K.pa pm, K.iv 2, K.iv D.push.t, K.iv (aftS c D.push.slot), .int .u64 0, .int .u64 ((D.push.top : Int) % 4294967296)] (rmDo2_ok _ _ _ _ _ _ _ x D.push.t (aftS c D.push.slot) (0 : Int) ((D.push.top : Int) % 4294967296) (by omega) (by first | omega | assumption | exact log_int (by assumption) _ _ | exact int_int (by assumption) _ | exact gen_int (by assumption) _ | exact aft_int (by assumption) _ | exact ann_int (by assumption) _ (by omega))) ?_)
   clear hS; rintro _ _ w ⟨l_10, rfl, rfl, x_11⟩ hS
   replace hS : K.Sat w0 [l_10, gp, fr] w := hS
   refine ⟨.inl (hS.pick [1]), ?_⟩
   refine K.DW.done (by kernel_rfl) ?_
   refine K.t (K.s (K.g (K.q [.pointer (some ⟨r, 40, none⟩), .pointer (some ⟨r, 40, none⟩), .pointer (some ⟨r, 45, none⟩)] ?_)))
   refine K.l (K.OW.gst 1 [K.iv 3] _ hS hgp2 ?_)
   clear hS; intro w g_12 hg_13 hS
   replace hS : K.Sat w0 [l_10, g_12, fr] w := hS
   refine K.z (K.t (K.r (K.u ?_)))
   have e : dPush c n D.push M = (⟨D.push.t, 3, D.push.top, D.push.slot⟩, ((M.accS n D.push.t (aftS c D.push.slot) ((D.push.top : Int) % 4294967296)).1)) := by unfold dPush; rw [if_neg (by omega), if_pos (by omega)] <;> rfl
   refine ⟨.inr rfl, rfl, (.tuple #[]), K.res0 rfl, [g_12, l_10], ?_, hS.pick [1, 0, 2]⟩
   exact ⟨_, _, rfl, rfl, by rw [e]; exact hg_13, by rw [e]; exact x_11⟩
  ·
   refine K.xe (D.push.line : Int) (2 : Int) h_9 ?_
   refine K.z (K.t (K.f (K.k (K.t (K.s (K.g (K.q [.pointer (some ⟨r, 40, none⟩), .pointer (some ⟨r, 40, none⟩), .pointer (some ⟨r, 45, none⟩)] ?_)))))))
   refine K.d (K.iv D.push.line) ((hS.blk 0 rfl hgp2).cell rfl) ?_
   by_cases h_14 : (D.push.line : Int) = (3 : Int)
   ·
    refine K.ye (D.push.line : Int) (3 : Int) h_14 ?_
    refine K.z (K.t (K.h (K.s (K.g (K.q [.pointer (some ⟨r, 40, none⟩), .pointer (some ⟨r, 40, none⟩), .pointer (some ⟨r, 45, none⟩)] ?_)))))
    refine K.l (K.OW.gst 0 [K.iv 1] _ hS hgp2 ?_)
    clear hS; intro w g_15 hg_16 hS
    replace hS : K.Sat w0 [g_15, l, fr] w := hS
    refine K.z (K.t (K.s ?_))
    refine K.KW.gdrawn [0] hS (by kernel_rfl) ?_
    clear hS; intro w hS
    refine K.p 0 rfl (K.pa pm) (hS.pick [0]) ?_
    refine K.p 1 rfl (.pointer (some ⟨r, 40, none⟩)) (hS.pick [0]) ?_
    refine K.p 2 rfl (.pointer (some ⟨r, 40, none⟩)) (hS.pick [0]) ?_
    refine K.p 3 rfl (.pointer (some ⟨r, 44, none⟩)) (hS.pick [0]) ?_
    refine K.o_ 4 rfl (K.iv D.push.t) (fun w hS => ((hS.blk 0 rfl hg_16).cell rfl)) (hS.pick [0]) ?_
    refine K.p 5 rfl (.pointer (some ⟨r, 40, none⟩)) (hS.pick [0]) ?_
    refine K.p 6 rfl (.pointer (some ⟨r, 40, none⟩)) (hS.pick [0]) ?_
    refine K.p 7 rfl (.pointer (some ⟨r, 46, none⟩)) (hS.pick [0]) ?_
    refine K.o_ 8 rfl (.int .u64 D.push.top) (fun w hS => ((hS.blk 0 rfl hg_16).cell rfl)) (hS.pick [0]) ?_
    refine K.p 9 rfl (.pointer (some ⟨r, 40, none⟩)) (hS.pick [0]) ?_
    refine K.p 10 rfl (.pointer (some ⟨r, 40, none⟩)) (hS.pick [0]) ?_
    refine K.p 11 rfl (.pointer (some ⟨r, 47, none⟩)) (hS.pick [0]) ?_
    refine K.o_ 12 rfl (K.iv D.push.slot) (fun w hS => ((hS.blk 0 rfl hg_16).cell rfl)) (hS.pick [0]) ?_
    refine K.b 13 rfl (.pointer (some ⟨r, 40, none⟩)) (hS.pick [0]) ?_
    refine K.b 14 rfl (.pointer (some ⟨r, 40, none⟩)) (hS.pick [0]) ?_
    refine K.b 15 rfl (.pointer (some ⟨r, 46, none⟩)) (hS.pick [0]) ?_
    refine K.c 16 rfl (K.QR.ld1 (v := .int .u64 D.push.top) rfl rfl (by kernel_rfl) ((hS.blk 0 rfl hg_16).cell rfl)) (hS.pick [0]) ?_
    refine K.DW.l 17 rfl (by kernel_rfl) rfl (K.OW.gcall hS [] [0, 1, 2] [.int .u64 D.push.top] (rver_ok _ D.push.top (by first | assumption | (unfold isW; omega))) ?_)
    clear hS; rintro _ _ w ⟨rfl, rfl⟩ hS
    replace hS : K.Sat w0 [g_15, l, fr] w := hS
    refine ⟨.inl (hS.pick [0]), ?_⟩
    refine K.c 18 rfl (K.QR.turn (v := .int .u32 (IntKind.u32.wrap (((verI D.push.top) : Int) + (1 : Int)))) (K.QR.k (v := .int .u32 (IntKind.u32.wrap (((verI D.push.top) : Int) + (1 : Int)))) (by kernel_rfl)) (congrArg (Value.int .u32) (show (IntKind.u32.wrap (((verI D.push.top) : Int) + (1 : Int)) : Int) = ((((verI D.push.top)) + (1)) % 4294967296 : Int) from wrapU32 _))) (hS.pick [0]) ?_
    refine K.DW.l 19 rfl (by kernel_rfl) rfl (K.OW.gcall hS [] [0, 1, 2] [K.iv D.push.slot, .int .u32 ((((verI D.push.top)) + (1)) % 4294967296)] (rtop_ok _ D.push.slot ((((verI D.push.top)) + (1)) % 4294967296) (by first | omega | (unfold toI; omega)) (by first | omega | decide)) ?_)
    clear hS; rintro _ _ w ⟨rfl, rfl⟩ hS
    replace hS : K.Sat w0 [g_15, l, fr] w := hS
    refine ⟨.inl (hS.pick [0]), ?_⟩
    refine K.DW.l 20 rfl (by kernel_rfl) rfl (K.OW.gcall hS [1] [0, 2] [K.pa pm, K.iv 3, K.iv D.push.t, K.iv (-2), .int .u64 D.push.top, .int .u64 (topI D.push.slot ((((verI D.push.top)) + (1)) % 4294967296))] (rmDo3_ok _ _ _ _ _ _ _ x D.push.t ((-2) : Int) D.push.top (topI D.push.slot ((((verI D.push.top)) + (1)) % 4294967296)) (by omega) (by first | omega | assumption | exact log_int (by assumption) _ _ | exact int_int (by assumption) _ | exact gen_int (by assumption) _ | exact aft_int (by assumption) _ | exact ann_int (by assumption) _ (by omega))) ?_)
    clear hS; rintro _ _ w ⟨l_17, rfl, rfl, x_18⟩ hS
    replace hS : K.Sat w0 [l_17, g_15, fr] w := hS
    refine ⟨.inl (hS.pick [1]), ?_⟩
    refine K.b 21 rfl (.bool ((M.accW n D.push.t ((-2) : Int) D.push.top (topI D.push.slot ((((verI D.push.top)) + (1)) % 4294967296))).2.done)) (hS.pick [1]) ?_
    cases hb_19 : (M.accW n D.push.t ((-2) : Int) D.push.top (topI D.push.slot ((((verI D.push.top)) + (1)) % 4294967296))).2.done
    ·
     refine K.DW.done (by kernel_rfl) ?_
     refine K.t (K.f (K.k ?_))
     have e : dPush c n D.push M = (⟨D.push.t, 1, D.push.top, D.push.slot⟩, ((M.accW n D.push.t ((-2) : Int) D.push.top (topI D.push.slot ((((verI D.push.top)) + (1)) % 4294967296))).1)) := by unfold dPush newerI; rw [if_neg (by omega), if_neg (by omega), if_pos (by omega), if_neg (by rw [hb_19]; decide)] <;> rfl
     refine ⟨.inl rfl, rfl, (.tuple #[]), K.res0 rfl, [g_15, l_17], ?_, hS.pick [1, 0, 2]⟩
     exact ⟨_, _, rfl, rfl, by rw [e]; exact hg_16, by rw [e]; exact x_18⟩
    ·
     refine K.DW.done (by kernel_rfl) ?_
     refine K.t (K.h (K.g (K.q [.pointer (some ⟨r, 40, none⟩), .pointer (some ⟨r, 40, none⟩), .pointer (some ⟨r, 45, none⟩)] ?_)))
     refine K.l (K.OW.gst 1 [K.iv 0] _ hS hg_16 ?_)
     clear hS; intro w g_20 hg_21 hS
     replace hS : K.Sat w0 [l_17, g_20, fr] w := hS
     refine K.z ?_
     have e : dPush c n D.push M = (⟨D.push.t, 0, D.push.top, D.push.slot⟩, ((M.accW n D.push.t ((-2) : Int) D.push.top (topI D.push.slot ((((verI D.push.top)) + (1)) % 4294967296))).1)) := by unfold dPush newerI; rw [if_neg (by omega), if_neg (by omega), if_pos (by omega), if_pos hb_19] <;> rfl
     refine ⟨.inl rfl, rfl, (.tuple #[]), K.res0 rfl, [g_20, l_17], ?_, hS.pick [1, 0, 2]⟩
     exact ⟨_, _, rfl, rfl, by rw [e]; exact hg_21, by rw [e]; exact x_18⟩
   ·
    refine K.xe (D.push.line : Int) (3 : Int) h_14 ?_
    refine K.z (K.t (K.f (K.k ?_)))
    have e : dPush c n D.push M = (D.push, M) := by unfold dPush; rw [if_neg (by omega), if_neg (by omega), if_neg (by omega)] <;> rfl
    refine ⟨.inl rfl, rfl, (.tuple #[]), K.res0 rfl, [gp, l], ?_, hS.pick [0, 1, 2]⟩
    exact ⟨_, _, rfl, rfl, by rw [e]; exact hgp2, by rw [e]; exact x⟩
set_option maxHeartbeats 1000000 in
set_option maxRecDepth 100000 in
theorem rtRec_ok (w0 : World) (r pm q n t : Nat) (c : Cfg) (hc : cfgOk c) (S : TkS) (D : DM) (M : MemM) (gp l : K.Cs) (hgp : gp = rtkPt r c S D) (x : RMemAt l pm q n t M) (hM : M.good) (hk : D.kind = 3) (hD : D.good c) (hl : ¬ D.line = 0) :
  K.GC Tryz.prog w0 143 #[.pointer (some ⟨r, 27, none⟩), K.pa pm] [gp, l] (fun v post => ∃ gp' l', v = .tuple #[] ∧ post = [gp', l'] ∧ gp' = rtkPt r c S (dRec c n D M).1 ∧ RMemAt l' pm q n t (dRec c n D M).2) := by
 have hD0 := hD
 obtain ⟨hDt, hDn, hDs, hDw, hDc, hDpt, hDps, hDpw, hDnb, hDpc⟩ := hD
 have hcc := hc
 unfold cfgOk at hcc
 have hr1 := toI_ge2
 have hst := stampI_rng
 have hDw2 := hDw
 unfold isW at hDw2
 refine K.GC.mk (n := 162) Tryz.func143 rfl rfl [.pointer (some ⟨r, 27, none⟩), K.pa pm] rfl rfl ?_
 intro fr w hS
 replace hS : K.Sat w0 [gp, l, fr] w := hS
 refine K.s (K.s (K.g (K.q [.pointer (some ⟨r, 27, none⟩), .pointer (some ⟨r, 27, none⟩), .pointer (some ⟨r, 33, none⟩)] ?_)))
 refine K.d (K.iv D.line) ((hS.blk 0 rfl hgp).cell rfl) ?_
 by_cases h_1 : (D.line : Int) = (1 : Int)
 ·
  refine K.ye (D.line : Int) (1 : Int) h_1 ?_
  refine K.z (K.t (K.h (K.s (K.g (K.q [.pointer (some ⟨r, 27, none⟩), K.pa pm, .pointer (some ⟨r, 27, none⟩), .pointer (some ⟨r, 27, none⟩), .pointer (some ⟨r, 31, none⟩)] ?_)))))
  refine K.d (K.iv D.t) ((hS.blk 0 rfl hgp).cell rfl) ?_
  refine K.l (K.OW.gcall hS [1] [0, 2] [K.pa pm, K.iv 1, K.iv D.t, K.iv (-1), .int .u64 0, .int .u64 0] (rmDo1_ok _ _ _ _ _ _ _ x D.t ((-1) : Int) (0 : Int) (0 : Int) (by omega) (by first | omega | assumption | exact log_int (by assumption) _ _ | exact int_int (by assumption) _ | exact gen_int (by assumption) _ | exact aft_int (by assumption) _ | exact ann_int (by assumption) _ (by omega))) ?_)
  clear hS; rintro _ _ w ⟨l_2, rfl, rfl, x_3⟩ hS
  replace hS : K.Sat w0 [l_2, gp, fr] w := hS
  have hw_4 : isW (M.accL n D.t ((-1) : Int)).2.old := (accL_good (by assumption)).2
  refine K.q [.int .u64 ((M.accL n D.t ((-1) : Int)).2.old), .pointer (some ⟨r, 27, none⟩), .pointer (some ⟨r, 37, none⟩)] ?_
  refine K.l (K.OW.gst 1 [.int .u64 ((M.accL n D.t ((-1) : Int)).2.old)] _ hS hgp ?_)
  clear hS; intro w g_5 hg_6 hS
  replace hS : K.Sat w0 [l_2, g_5, fr] w := hS
  refine K.z (K.t (K.s (K.g (K.q [.pointer (some ⟨r, 27, none⟩), .pointer (some ⟨r, 27, none⟩), .pointer (some ⟨r, 33, none⟩)] ?_))))
  refine K.l (K.OW.gst 1 [K.iv 2] _ hS hg_6 ?_)
  clear hS; intro w g_7 hg_8 hS
  replace hS : K.Sat w0 [l_2, g_7, fr] w := hS
  refine K.z (K.t (K.r (K.u ?_)))
  have e : dRec c n D M = (⟨D.t, D.kind, 2, D.n, D.slot, D.place, (M.accL n D.t ((-1) : Int)).2.old, D.holds, D.count, D.pc, D.push⟩, ((M.accL n D.t ((-1) : Int)).1)) := by unfold dRec; rw [if_pos (by omega)] <;> rfl
  refine ⟨.inr rfl, rfl, (.tuple #[]), K.res0 rfl, [g_7, l_2], ?_, hS.pick [1, 0, 2]⟩
  exact ⟨_, _, rfl, rfl, by rw [e]; exact hg_8, by rw [e]; exact x_3⟩
 ·
  refine K.xe (D.line : Int) (1 : Int) h_1 ?_
  refine K.z (K.t (K.f (K.k (K.t (K.s (K.s (K.g (K.q [.pointer (some ⟨r, 27, none⟩), .pointer (some ⟨r, 27, none⟩), .pointer (some ⟨r, 33, none⟩)] ?_))))))))
  refine K.d (K.iv D.line) ((hS.blk 0 rfl hgp).cell rfl) ?_
  by_cases h_9 : (D.line : Int) = (2 : Int)
  ·
   refine K.ye (D.line : Int) (2 : Int) h_9 ?_
   refine K.z (K.t (K.h (K.s ?_)))
   refine K.KW.gdrawn [0] hS (by kernel_rfl) ?_
   clear hS; intro w hS
   refine K.p 0 rfl (K.pa pm) (hS.pick [0]) ?_
   refine K.p 1 rfl (.pointer (some ⟨r, 27, none⟩)) (hS.pick [0]) ?_
   refine K.p 2 rfl (.pointer (some ⟨r, 27, none⟩)) (hS.pick [0]) ?_
   refine K.p 3 rfl (.pointer (some ⟨r, 31, none⟩)) (hS.pick [0]) ?_
   refine K.o_ 4 rfl (K.iv D.t) (fun w hS => ((hS.blk 0 rfl hgp).cell rfl)) (hS.pick [0]) ?_
   refine K.p 5 rfl (.pointer (some ⟨r, 27, none⟩)) (hS.pick [0]) ?_
   refine K.p 6 rfl (.pointer (some ⟨r, 27, none⟩)) (hS.pick [0]) ?_
   refine K.p 7 rfl (.pointer (some ⟨r, 27, none⟩)) (hS.pick [0]) ?_
   refine K.m 8 rfl (fun w hS => K.QR.ldN [K.iv c.th, K.iv c.sl, K.iv c.lo, K.iv c.bu] rfl rfl (by kernel_rfl) (by kernel_rfl) (K.cells (K.cl ((hS.blk 0 rfl hgp).cell rfl) (K.cl ((hS.blk 0 rfl hgp).cell rfl) (K.cl ((hS.blk 0 rfl hgp).cell rfl) (K.cl ((hS.blk 0 rfl hgp).cell rfl) K.cl0)))))) (hS.pick [0]) ?_
   refine K.p 9 rfl (.pointer (some ⟨r, 27, none⟩)) (hS.pick [0]) ?_
   refine K.p 10 rfl (.pointer (some ⟨r, 27, none⟩)) (hS.pick [0]) ?_
   refine K.p 11 rfl (.pointer (some ⟨r, 31, none⟩)) (hS.pick [0]) ?_
   refine K.o_ 12 rfl (K.iv D.t) (fun w hS => ((hS.blk 0 rfl hgp).cell rfl)) (hS.pick [0]) ?_
   refine K.b 13 rfl (.pointer (some ⟨r, 27, none⟩)) (hS.pick [0]) ?_
   refine K.b 14 rfl (.pointer (some ⟨r, 27, none⟩)) (hS.pick [0]) ?_
   refine K.b 15 rfl (.pointer (some ⟨r, 34, none⟩)) (hS.pick [0]) ?_
   refine K.c 16 rfl (K.QR.ld1 (v := K.iv D.n) rfl rfl (by kernel_rfl) ((hS.blk 0 rfl hgp).cell rfl)) (hS.pick [0]) ?_
   refine K.DW.l 17 rfl (by kernel_rfl) rfl (K.OW.gcall hS [] [0, 1, 2] [.agg #[K.iv c.th, K.iv c.sl, K.iv c.lo, K.iv c.bu], K.iv D.t, K.iv D.n] (rlog_ok _ c (by first | assumption | (unfold cfgOk; decide)) D.t D.n) ?_)
   clear hS; rintro _ _ w ⟨rfl, rfl⟩ hS
   replace hS : K.Sat w0 [gp, l, fr] w := hS
   refine ⟨.inl (hS.pick [0]), ?_⟩
   refine K.DW.l 18 rfl (by kernel_rfl) rfl (K.OW.gcall hS [1] [0, 2] [K.pa pm, K.iv 1, K.iv D.t, K.iv (logS c D.t D.n), .int .u64 0, .int .u64 0] (rmDo1_ok _ _ _ _ _ _ _ x D.t (logS c D.t D.n) (0 : Int) (0 : Int) (by omega) (by first | omega | assumption | exact log_int (by assumption) _ _ | exact int_int (by assumption) _ | exact gen_int (by assumption) _ | exact aft_int (by assumption) _ | exact ann_int (by assumption) _ (by omega))) ?_)
   clear hS; rintro _ _ w ⟨l_10, rfl, rfl, x_11⟩ hS
   replace hS : K.Sat w0 [l_10, gp, fr] w := hS
   have hw_12 : isW (M.accL n D.t (logS c D.t D.n)).2.old := (accL_good (by assumption)).2
   refine ⟨.inl (hS.pick [1]), ?_⟩
   refine K.b 19 rfl (.int .u64 ((M.accL n D.t (logS c D.t D.n)).2.old)) (hS.pick [1]) ?_
   refine K.b 20 rfl (.int .u64 ((M.accL n D.t (logS c D.t D.n)).2.old)) (hS.pick [1]) ?_
   refine K.DW.done (by kernel_rfl) ?_
   refine K.t (K.s ?_)
   have hs1 := stampI_rng ((M.accL n D.t (logS c D.t D.n)).2.old)
   have hs2 := toI_ge2 ((M.accL n D.t (logS c D.t D.n)).2.old)
   refine K.g (K.q [.int .u64 ((M.accL n D.t (logS c D.t D.n)).2.old)] ?_)
   refine K.l (K.OW.gcall hS [] [0, 1, 2] [.int .u64 ((M.accL n D.t (logS c D.t D.n)).2.old)] (rstamp_ok _ ((M.accL n D.t (logS c D.t D.n)).2.old) (by first | assumption | (unfold isW; omega))) ?_)
   clear hS; rintro _ _ w ⟨rfl, rfl⟩ hS
   replace hS : K.Sat w0 [l_10, gp, fr] w := hS
   refine K.q [K.iv (stampI ((M.accL n D.t (logS c D.t D.n)).2.old))] (K.z (K.t (K.s (K.s (K.g (K.q [.int .u64 ((M.accL n D.t (logS c D.t D.n)).2.old)] ?_))))))
   refine K.l (K.OW.gcall hS [] [0, 1, 2] [.int .u64 ((M.accL n D.t (logS c D.t D.n)).2.old)] (rto_ok _ ((M.accL n D.t (logS c D.t D.n)).2.old) (by first | assumption | (unfold isW; omega))) ?_)
   clear hS; rintro _ _ w ⟨rfl, rfl⟩ hS
   replace hS : K.Sat w0 [l_10, gp, fr] w := hS
   by_cases h_13 : ((toI ((M.accL n D.t (logS c D.t D.n)).2.old)) : Int) ≥ (0 : Int)
   ·
    refine K.y (((toI ((M.accL n D.t (logS c D.t D.n)).2.old)) : Int) ≥ (0 : Int)) h_13 ?_
    refine K.q [.bool true, K.iv (stampI ((M.accL n D.t (logS c D.t D.n)).2.old))] ?_
    by_cases h_14 : ((stampI ((M.accL n D.t (logS c D.t D.n)).2.old)) : Int) ≥ (0 : Int)
    ·
     refine K.y (((stampI ((M.accL n D.t (logS c D.t D.n)).2.old)) : Int) ≥ (0 : Int)) h_14 ?_
     refine K.q [.bool true, .bool true, .pointer (some ⟨r, 27, none⟩), .pointer (some ⟨r, 27, none⟩), .pointer (some ⟨r, 37, none⟩)] ?_
     refine K.d (.int .u64 D.now) ((hS.blk 1 rfl hgp).cell rfl) ?_
     by_cases h_15 : (D.now : Int) ≥ (2 : Int)
     ·
      refine K.y ((D.now : Int) ≥ (2 : Int)) h_15 ?_
      refine K.q [.bool true, .bool true, K.iv (stampI ((M.accL n D.t (logS c D.t D.n)).2.old))] ?_
      refine K.a (K.QR.nice (v := .int .u64 (IntKind.u64.wrap (stampI ((M.accL n D.t (logS c D.t D.n)).2.old)))) (by kernel_rfl) (congrArg (Value.int .u64) (IntWalk.u64_in _ (by omega)))) ?_
      refine K.q [.pointer (some ⟨r, 27, none⟩), .pointer (some ⟨r, 27, none⟩), .pointer (some ⟨r, 37, none⟩)] ?_
      refine K.d (.int .u64 D.now) ((hS.blk 1 rfl hgp).cell rfl) ?_
      refine K.a (K.QR.nu64 ((D.now : Int) - (2 : Int)) ((D.now : Int) - (2 : Int)) (by kernel_rfl) (by omega)) ?_
      by_cases h_16 : ((stampI ((M.accL n D.t (logS c D.t D.n)).2.old)) : Int) ≤ ((D.now : Int) - (2 : Int) : Int)
      ·
       refine K.y (((stampI ((M.accL n D.t (logS c D.t D.n)).2.old)) : Int) ≤ ((D.now : Int) - (2 : Int) : Int)) h_16 ?_
       refine K.q [.bool true] (K.z (K.t (K.h (K.s (K.g (K.q [.pointer (some ⟨r, 27, none⟩), .int .u64 ((M.accL n D.t (logS c D.t D.n)).2.old)] ?_))))))
       refine K.l (K.OW.gcall hS [] [0, 1, 2] [.int .u64 ((M.accL n D.t (logS c D.t D.n)).2.old)] (rto_ok _ ((M.accL n D.t (logS c D.t D.n)).2.old) (by first | assumption | (unfold isW; omega))) ?_)
       clear hS; rintro _ _ w ⟨rfl, rfl⟩ hS
       replace hS : K.Sat w0 [l_10, gp, fr] w := hS
       refine K.q [.pointer (some ⟨r, 27, none⟩), .pointer (some ⟨r, 35, none⟩)] ?_
       refine K.l (K.OW.gst 1 [K.iv (toI ((M.accL n D.t (logS c D.t D.n)).2.old))] _ hS hgp ?_)
       clear hS; intro w g_17 hg_18 hS
       replace hS : K.Sat w0 [l_10, g_17, fr] w := hS
       refine K.z (K.t (K.s (K.g (K.q [.pointer (some ⟨r, 27, none⟩), .pointer (some ⟨r, 27, none⟩), .pointer (some ⟨r, 33, none⟩)] ?_))))
       refine K.l (K.OW.gst 1 [K.iv 3] _ hS hg_18 ?_)
       clear hS; intro w g_19 hg_20 hS
       replace hS : K.Sat w0 [l_10, g_19, fr] w := hS
       refine K.z (K.t (K.r (K.u (K.u ?_))))
       have e0 : dRec2 c n D M = (⟨D.t, D.kind, 3, D.n, (toI ((M.accL n D.t (logS c D.t D.n)).2.old)), D.place, D.now, D.holds, D.count, D.pc, D.push⟩, ((M.accL n D.t (logS c D.t D.n)).1)) := if_pos (by unfold recOld dLd; omega)
       have e : dRec c n D M = (⟨D.t, D.kind, 3, D.n, (toI ((M.accL n D.t (logS c D.t D.n)).2.old)), D.place, D.now, D.holds, D.count, D.pc, D.push⟩, ((M.accL n D.t (logS c D.t D.n)).1)) := by unfold dRec; rw [if_neg (by omega), if_pos (by omega), e0] <;> rfl
       refine ⟨.inr rfl, rfl, (.tuple #[]), K.res0 rfl, [g_19, l_10], ?_, hS.pick [1, 0, 2]⟩
       exact ⟨_, _, rfl, rfl, by rw [e]; exact hg_20, by rw [e]; exact x_11⟩
      ·
       refine K.x (((stampI ((M.accL n D.t (logS c D.t D.n)).2.old)) : Int) ≤ ((D.now : Int) - (2 : Int) : Int)) h_16 ?_
       refine K.q [.bool false] (K.z (K.t (K.f (K.k (K.t (K.s (K.g (K.q [.pointer (some ⟨r, 27, none⟩)] ?_))))))))
       refine K.l (K.OW.gcall hS [1] [0, 2] [.pointer (some ⟨r, 27, none⟩)] (rtOn_ok _ _ c hc S ⟨D.t, D.kind, D.line, D.n, D.slot, D.place, D.now, D.holds, D.count, D.pc, D.push⟩ _ hgp (by show -100 ≤ D.n ∧ D.n ≤ 100; omega)) ?_)
       clear hS; rintro _ _ w ⟨g_21, rfl, rfl, h_22⟩ hS
       replace hS : K.Sat w0 [g_21, l_10, fr] w := hS
       refine K.z (K.t (K.r (K.u ?_)))
       have e0 : dRec2 c n D M = (dOn c D, ((M.accL n D.t (logS c D.t D.n)).1)) := if_neg (by unfold recOld dLd; omega)
       have e : dRec c n D M = (dOn c D, ((M.accL n D.t (logS c D.t D.n)).1)) := by unfold dRec; rw [if_neg (by omega), if_pos (by omega), e0] <;> rfl
       refine ⟨.inr rfl, rfl, (.tuple #[]), K.res0 rfl, [g_21, l_10], ?_, hS.pick [0, 1, 2]⟩
       exact ⟨_, _, rfl, rfl, by rw [e]; exact h_22, by rw [e]; exact x_11⟩
     ·
      refine K.x ((D.now : Int) ≥ (2 : Int)) h_15 ?_
      refine K.q [.bool false, .bool false] (K.n_ (K.n_ (K.n_ (K.n_ (K.n_ (K.n_ (K.n_ (K.n_ (K.q [.bool false] (K.z (K.t (K.f (K.k (K.t ?_))))))))))))))
      refine K.s (K.g (K.q [.pointer (some ⟨r, 27, none⟩)] ?_))
      refine K.l (K.OW.gcall hS [1] [0, 2] [.pointer (some ⟨r, 27, none⟩)] (rtOn_ok _ _ c hc S ⟨D.t, D.kind, D.line, D.n, D.slot, D.place, D.now, D.holds, D.count, D.pc, D.push⟩ _ hgp (by show -100 ≤ D.n ∧ D.n ≤ 100; omega)) ?_)
      clear hS; rintro _ _ w ⟨g_23, rfl, rfl, h_24⟩ hS
      replace hS : K.Sat w0 [g_23, l_10, fr] w := hS
      refine K.z (K.t (K.r (K.u ?_)))
      have e0 : dRec2 c n D M = (dOn c D, ((M.accL n D.t (logS c D.t D.n)).1)) := if_neg (by unfold recOld dLd; omega)
      have e : dRec c n D M = (dOn c D, ((M.accL n D.t (logS c D.t D.n)).1)) := by unfold dRec; rw [if_neg (by omega), if_pos (by omega), e0] <;> rfl
      refine ⟨.inr rfl, rfl, (.tuple #[]), K.res0 rfl, [g_23, l_10], ?_, hS.pick [0, 1, 2]⟩
      exact ⟨_, _, rfl, rfl, by rw [e]; exact h_24, by rw [e]; exact x_11⟩
    ·
     refine K.x (((stampI ((M.accL n D.t (logS c D.t D.n)).2.old)) : Int) ≥ (0 : Int)) h_14 ?_
     refine K.q [.bool false, .bool false] (K.n_ (K.n_ (K.n_ (K.n_ (K.n_ (K.q [.bool false, .bool false] (K.n_ (K.n_ (K.n_ (K.n_ (K.n_ (K.n_ (K.n_ (K.n_ ?_))))))))))))))
     refine K.q [.bool false] (K.z (K.t (K.f (K.k (K.t (K.s (K.g (K.q [.pointer (some ⟨r, 27, none⟩)] ?_))))))))
     refine K.l (K.OW.gcall hS [1] [0, 2] [.pointer (some ⟨r, 27, none⟩)] (rtOn_ok _ _ c hc S ⟨D.t, D.kind, D.line, D.n, D.slot, D.place, D.now, D.holds, D.count, D.pc, D.push⟩ _ hgp (by show -100 ≤ D.n ∧ D.n ≤ 100; omega)) ?_)
     clear hS; rintro _ _ w ⟨g_25, rfl, rfl, h_26⟩ hS
     replace hS : K.Sat w0 [g_25, l_10, fr] w := hS
     refine K.z (K.t (K.r (K.u ?_)))
     have e0 : dRec2 c n D M = (dOn c D, ((M.accL n D.t (logS c D.t D.n)).1)) := if_neg (by unfold recOld dLd; omega)
     have e : dRec c n D M = (dOn c D, ((M.accL n D.t (logS c D.t D.n)).1)) := by unfold dRec; rw [if_neg (by omega), if_pos (by omega), e0] <;> rfl
     refine ⟨.inr rfl, rfl, (.tuple #[]), K.res0 rfl, [g_25, l_10], ?_, hS.pick [0, 1, 2]⟩
     exact ⟨_, _, rfl, rfl, by rw [e]; exact h_26, by rw [e]; exact x_11⟩
   ·
    refine K.x (((toI ((M.accL n D.t (logS c D.t D.n)).2.old)) : Int) ≥ (0 : Int)) h_13 ?_
    refine K.q [.bool false] (K.n_ (K.n_ (K.q [.bool false, .bool false] (K.n_ (K.n_ (K.n_ (K.n_ (K.n_ (K.q [.bool false, .bool false] (K.n_ (K.n_ (K.n_ (K.n_ (K.n_ ?_))))))))))))))
    refine K.n_ (K.n_ (K.n_ (K.q [.bool false] (K.z (K.t (K.f (K.k (K.t (K.s (K.g (K.q [.pointer (some ⟨r, 27, none⟩)] ?_)))))))))))
    refine K.l (K.OW.gcall hS [1] [0, 2] [.pointer (some ⟨r, 27, none⟩)] (rtOn_ok _ _ c hc S ⟨D.t, D.kind, D.line, D.n, D.slot, D.place, D.now, D.holds, D.count, D.pc, D.push⟩ _ hgp (by show -100 ≤ D.n ∧ D.n ≤ 100; omega)) ?_)
    clear hS; rintro _ _ w ⟨g_27, rfl, rfl, h_28⟩ hS
    replace hS : K.Sat w0 [g_27, l_10, fr] w := hS
    refine K.z (K.t (K.r (K.u ?_)))
    have e0 : dRec2 c n D M = (dOn c D, ((M.accL n D.t (logS c D.t D.n)).1)) := if_neg (by unfold recOld dLd; omega)
    have e : dRec c n D M = (dOn c D, ((M.accL n D.t (logS c D.t D.n)).1)) := by unfold dRec; rw [if_neg (by omega), if_pos (by omega), e0] <;> rfl
    refine ⟨.inr rfl, rfl, (.tuple #[]), K.res0 rfl, [g_27, l_10], ?_, hS.pick [0, 1, 2]⟩
    exact ⟨_, _, rfl, rfl, by rw [e]; exact h_28, by rw [e]; exact x_11⟩
  ·
   refine K.xe (D.line : Int) (2 : Int) h_9 ?_
   refine K.z (K.t (K.f (K.k (K.t (K.s (K.s (K.g (K.q [.pointer (some ⟨r, 27, none⟩), .pointer (some ⟨r, 27, none⟩), .pointer (some ⟨r, 33, none⟩)] ?_))))))))
   refine K.d (K.iv D.line) ((hS.blk 0 rfl hgp).cell rfl) ?_
   by_cases h_29 : (D.line : Int) = (3 : Int)
   ·
    refine K.ye (D.line : Int) (3 : Int) h_29 ?_
    refine K.z (K.t (K.h (K.s ?_)))
    refine K.KW.gdrawn [0] hS (by kernel_rfl) ?_
    clear hS; intro w hS
    refine K.p 0 rfl (K.pa pm) (hS.pick [0]) ?_
    refine K.p 1 rfl (.pointer (some ⟨r, 27, none⟩)) (hS.pick [0]) ?_
    refine K.p 2 rfl (.pointer (some ⟨r, 27, none⟩)) (hS.pick [0]) ?_
    refine K.p 3 rfl (.pointer (some ⟨r, 31, none⟩)) (hS.pick [0]) ?_
    refine K.o_ 4 rfl (K.iv D.t) (fun w hS => ((hS.blk 0 rfl hgp).cell rfl)) (hS.pick [0]) ?_
    refine K.p 5 rfl (.pointer (some ⟨r, 27, none⟩)) (hS.pick [0]) ?_
    refine K.p 6 rfl (.pointer (some ⟨r, 27, none⟩)) (hS.pick [0]) ?_
    refine K.p 7 rfl (.pointer (some ⟨r, 27, none⟩)) (hS.pick [0]) ?_
    refine K.m 8 rfl (fun w hS => K.QR.ldN [K.iv c.th, K.iv c.sl, K.iv c.lo, K.iv c.bu] rfl rfl (by kernel_rfl) (by kernel_rfl) (K.cells (K.cl ((hS.blk 0 rfl hgp).cell rfl) (K.cl ((hS.blk 0 rfl hgp).cell rfl) (K.cl ((hS.blk 0 rfl hgp).cell rfl) (K.cl ((hS.blk 0 rfl hgp).cell rfl) K.cl0)))))) (hS.pick [0]) ?_
    refine K.p 9 rfl (.pointer (some ⟨r, 27, none⟩)) (hS.pick [0]) ?_
    refine K.p 10 rfl (.pointer (some ⟨r, 27, none⟩)) (hS.pick [0]) ?_
    refine K.p 11 rfl (.pointer (some ⟨r, 31, none⟩)) (hS.pick [0]) ?_
    refine K.o_ 12 rfl (K.iv D.t) (fun w hS => ((hS.blk 0 rfl hgp).cell rfl)) (hS.pick [0]) ?_
    refine K.b 13 rfl (.pointer (some ⟨r, 27, none⟩)) (hS.pick [0]) ?_
    refine K.b 14 rfl (.pointer (some ⟨r, 27, none⟩)) (hS.pick [0]) ?_
    refine K.b 15 rfl (.pointer (some ⟨r, 34, none⟩)) (hS.pick [0]) ?_
    refine K.c 16 rfl (K.QR.ld1 (v := K.iv D.n) rfl rfl (by kernel_rfl) ((hS.blk 0 rfl hgp).cell rfl)) (hS.pick [0]) ?_
    refine K.DW.l 17 rfl (by kernel_rfl) rfl (K.OW.gcall hS [] [0, 1, 2] [.agg #[K.iv c.th, K.iv c.sl, K.iv c.lo, K.iv c.bu], K.iv D.t, K.iv D.n] (rlog_ok _ c (by first | assumption | (unfold cfgOk; decide)) D.t D.n) ?_)
    clear hS; rintro _ _ w ⟨rfl, rfl⟩ hS
    replace hS : K.Sat w0 [gp, l, fr] w := hS
    refine ⟨.inl (hS.pick [0]), ?_⟩
    refine K.DW.l 18 rfl (by kernel_rfl) rfl (K.OW.gcall hS [1] [0, 2] [K.pa pm, K.iv 2, K.iv D.t, K.iv (logS c D.t D.n), .int .u64 0, .int .u64 0] (rmDo2_ok _ _ _ _ _ _ _ x D.t (logS c D.t D.n) (0 : Int) (0 : Int) (by omega) (by first | omega | assumption | exact log_int (by assumption) _ _ | exact int_int (by assumption) _ | exact gen_int (by assumption) _ | exact aft_int (by assumption) _ | exact ann_int (by assumption) _ (by omega))) ?_)
    clear hS; rintro _ _ w ⟨l_30, rfl, rfl, x_31⟩ hS
    replace hS : K.Sat w0 [l_30, gp, fr] w := hS
    refine ⟨.inl (hS.pick [1]), ?_⟩
    refine K.DW.done (by kernel_rfl) ?_
    refine K.t (K.s (K.g (K.q [.pointer (some ⟨r, 27, none⟩), .pointer (some ⟨r, 27, none⟩), .pointer (some ⟨r, 27, none⟩), .pointer (some ⟨r, 35, none⟩)] ?_)))
    refine K.d (K.iv D.slot) ((hS.blk 1 rfl hgp).cell rfl) ?_
    refine K.q [.pointer (some ⟨r, 27, none⟩), .pointer (some ⟨r, 38, none⟩)] ?_
    refine K.l (K.OW.gst 1 [K.iv D.slot] _ hS hgp ?_)
    clear hS; intro w g_32 hg_33 hS
    replace hS : K.Sat w0 [l_30, g_32, fr] w := hS
    refine K.z (K.t (K.s ?_))
    refine K.KW.gdrawn [1] hS (by kernel_rfl) ?_
    clear hS; intro w hS
    refine K.p 0 rfl (.pointer (some ⟨r, 27, none⟩)) (hS.pick [1]) ?_
    refine K.p 1 rfl (.pointer (some ⟨r, 27, none⟩)) (hS.pick [1]) ?_
    refine K.p 2 rfl (.pointer (some ⟨r, 27, none⟩)) (hS.pick [1]) ?_
    refine K.p 3 rfl (.pointer (some ⟨r, 27, none⟩)) (hS.pick [1]) ?_
    refine K.m 4 rfl (fun w hS => K.QR.ldN [K.iv c.th, K.iv c.sl, K.iv c.lo, K.iv c.bu] rfl rfl (by kernel_rfl) (by kernel_rfl) (K.cells (K.cl ((hS.blk 0 rfl hg_33).cell rfl) (K.cl ((hS.blk 0 rfl hg_33).cell rfl) (K.cl ((hS.blk 0 rfl hg_33).cell rfl) (K.cl ((hS.blk 0 rfl hg_33).cell rfl) K.cl0)))))) (hS.pick [1]) ?_
    refine K.p 5 rfl (.pointer (some ⟨r, 27, none⟩)) (hS.pick [1]) ?_
    refine K.p 6 rfl (.pointer (some ⟨r, 27, none⟩)) (hS.pick [1]) ?_
    refine K.p 7 rfl (.pointer (some ⟨r, 31, none⟩)) (hS.pick [1]) ?_
    refine K.o_ 8 rfl (K.iv D.t) (fun w hS => ((hS.blk 0 rfl hg_33).cell rfl)) (hS.pick [1]) ?_
    refine K.b 9 rfl (.pointer (some ⟨r, 27, none⟩)) (hS.pick [1]) ?_
    refine K.b 10 rfl (.pointer (some ⟨r, 27, none⟩)) (hS.pick [1]) ?_
    refine K.b 11 rfl (.pointer (some ⟨r, 35, none⟩)) (hS.pick [1]) ?_
    refine K.c 12 rfl (K.QR.ld1 (v := K.iv D.slot) rfl rfl (by kernel_rfl) ((hS.blk 1 rfl hg_33).cell rfl)) (hS.pick [1]) ?_
    refine K.c 13 rfl (K.QR.bd [(0, .agg #[K.iv c.th, K.iv c.sl, K.iv c.lo, K.iv c.bu]), (1, K.iv D.t), (2, K.iv 1), (4, K.iv D.slot)] [K.iv c.th, K.iv c.sl, K.iv c.lo, K.iv c.bu, K.iv D.t, K.iv 1, .int .u64 0, K.iv D.slot] rfl rfl (by kernel_rfl)) (hS.pick [1]) ?_
    refine K.b 14 rfl (.pointer (some ⟨r, 27, none⟩)) (hS.pick [1]) ?_
    refine K.b 15 rfl (.pointer (some ⟨r, 40, none⟩)) (hS.pick [1]) ?_
    refine K.DW.l 16 rfl (by kernel_rfl) rfl (K.OW.gst 1 [K.iv c.th, K.iv c.sl, K.iv c.lo, K.iv c.bu, K.iv D.t, K.iv 1, .int .u64 0, K.iv D.slot] _ hS hg_33 ?_)
    clear hS; intro w g_34 hg_35 hS
    replace hS : K.Sat w0 [l_30, g_34, fr] w := hS
    refine ⟨.inr (by kernel_rfl), ?_⟩
    refine K.DW.done (by kernel_rfl) ?_
    refine K.t (K.s (K.g (K.q [.pointer (some ⟨r, 27, none⟩), .pointer (some ⟨r, 27, none⟩), .pointer (some ⟨r, 33, none⟩)] ?_)))
    refine K.l (K.OW.gst 1 [K.iv 4] _ hS hg_35 ?_)
    clear hS; intro w g_36 hg_37 hS
    replace hS : K.Sat w0 [l_30, g_36, fr] w := hS
    refine K.z (K.t (K.r (K.u ?_)))
    have e : dRec c n D M = (⟨D.t, D.kind, 4, D.n, D.slot, D.place, D.now, D.slot, D.count, c, ⟨D.t, 1, 0, D.slot⟩⟩, ((M.accS n D.t (logS c D.t D.n) (0 : Int)).1)) := by unfold dRec; rw [if_neg (by omega), if_neg (by omega), if_pos (by omega)] <;> rfl
    refine ⟨.inr rfl, rfl, (.tuple #[]), K.res0 rfl, [g_36, l_30], ?_, hS.pick [1, 0, 2]⟩
    exact ⟨_, _, rfl, rfl, by rw [e]; exact hg_37, by rw [e]; exact x_31⟩
   ·
    refine K.xe (D.line : Int) (3 : Int) h_29 ?_
    refine K.z (K.t (K.f (K.k (K.t (K.s (K.g (K.q [.pointer (some ⟨r, 27, none⟩), .pointer (some ⟨r, 27, none⟩), .pointer (some ⟨r, 40, none⟩), K.pa pm] ?_)))))))
    refine K.l (K.OW.gcall hS [0, 1] [2] [.pointer (some ⟨r, 40, none⟩), K.pa pm] (rtPush_ok _ _ _ _ _ _ c hc S D M _ _ hgp x (by assumption) hD0 (hDpc (by omega))) ?_)
    clear hS; rintro _ _ w ⟨g_38, l_39, rfl, rfl, h_40, x_41⟩ hS
    replace hS : K.Sat w0 [g_38, l_39, fr] w := hS
    refine K.z (K.t (K.s (K.g (K.q [.pointer (some ⟨r, 27, none⟩), .pointer (some ⟨r, 27, none⟩), .pointer (some ⟨r, 40, none⟩), .pointer (some ⟨r, 45, none⟩)] ?_))))
    refine K.d (K.iv ((dPush c n D.push M).1.line)) ((hS.blk 0 rfl h_40).cell rfl) ?_
    by_cases h_42 : ((dPush c n D.push M).1.line : Int) = (0 : Int)
    ·
     refine K.ye ((dPush c n D.push M).1.line : Int) (0 : Int) h_42 ?_
     refine K.z (K.t (K.h (K.s (K.g (K.q [.pointer (some ⟨r, 27, none⟩), .pointer (some ⟨r, 27, none⟩), .pointer (some ⟨r, 38, none⟩)] ?_)))))
     refine K.l (K.OW.gst 0 [K.iv (-1)] _ hS h_40 ?_)
     clear hS; intro w g_43 hg_44 hS
     replace hS : K.Sat w0 [g_43, l_39, fr] w := hS
     refine K.z (K.t (K.s (K.g (K.q [.pointer (some ⟨r, 27, none⟩), .pointer (some ⟨r, 27, none⟩), .pointer (some ⟨r, 27, none⟩), .pointer (some ⟨r, 39, none⟩)] ?_))))
     refine K.d (K.iv D.count) ((hS.blk 0 rfl hg_44).cell rfl) ?_
     refine K.a (K.QR.n64 ((D.count : Int) + (1 : Int)) ((D.count : Int) + (1 : Int)) (by kernel_rfl) (by omega)) ?_
     refine K.q [.pointer (some ⟨r, 27, none⟩), .pointer (some ⟨r, 39, none⟩)] ?_
     refine K.l (K.OW.gst 0 [K.iv ((D.count : Int) + (1 : Int))] _ hS hg_44 ?_)
     clear hS; intro w g_45 hg_46 hS
     replace hS : K.Sat w0 [g_45, l_39, fr] w := hS
     refine K.z (K.t (K.s (K.g (K.q [.pointer (some ⟨r, 27, none⟩), .pointer (some ⟨r, 27, none⟩), .pointer (some ⟨r, 33, none⟩)] ?_))))
     refine K.l (K.OW.gst 0 [K.iv 2] _ hS hg_46 ?_)
     clear hS; intro w g_47 hg_48 hS
     replace hS : K.Sat w0 [g_47, l_39, fr] w := hS
     refine K.z (K.t (K.g (K.q [.pointer (some ⟨r, 27, none⟩)] ?_)))
     refine K.l (K.OW.gcall hS [0] [1, 2] [.pointer (some ⟨r, 27, none⟩)] (rtOn_ok _ _ c hc S ⟨D.t, D.kind, 2, D.n, D.slot, D.place, D.now, (-1), (D.count : Int) + (1 : Int), c, (dPush c n D.push M).1⟩ _ hg_48 (by show -100 ≤ D.n ∧ D.n ≤ 100; omega)) ?_)
     clear hS; rintro _ _ w ⟨g_49, rfl, rfl, h_50⟩ hS
     replace hS : K.Sat w0 [g_49, l_39, fr] w := hS
     refine K.z ?_
     have hpcc : D.pc = c := hDpc (by omega)
     have e : dRec c n D M = (dOn c ⟨D.t, D.kind, 2, D.n, D.slot, D.place, D.now, -1, D.count + 1, D.pc, (dPush c n D.push M).1⟩, (dPush c n D.push M).2) := by unfold dRec; rw [if_neg (by omega), if_neg (by omega), if_neg (by omega), if_pos (by omega)] <;> rfl
     refine ⟨.inl rfl, rfl, (.tuple #[]), K.res0 rfl, [g_49, l_39], ?_, hS.pick [0, 1, 2]⟩
     exact ⟨_, _, rfl, rfl, by rw [e, hpcc]; exact h_50, by rw [e]; exact x_41⟩
    ·
     refine K.xe ((dPush c n D.push M).1.line : Int) (0 : Int) h_42 ?_
     refine K.z (K.t (K.f (K.k ?_)))
     have hpcc : D.pc = c := hDpc (by omega)
     have e : dRec c n D M = (dPut D (dPush c n D.push M).1, (dPush c n D.push M).2) := by unfold dRec; rw [if_neg (by omega), if_neg (by omega), if_neg (by omega), if_neg (by omega)] <;> rfl
     refine ⟨.inl rfl, rfl, (.tuple #[]), K.res0 rfl, [g_38, l_39], ?_, hS.pick [0, 1, 2]⟩
     exact ⟨_, _, rfl, rfl, by rw [e]; unfold dPut; rw [hpcc]; exact h_40, by rw [e]; exact x_41⟩
set_option maxHeartbeats 1000000 in
set_option maxRecDepth 100000 in
theorem rtRs_ok (w0 : World) (r pm q n t : Nat) (c : Cfg) (hc : cfgOk c) (S : TkS) (D : DM) (M : MemM) (gp l : K.Cs) (hgp : gp = rtkPt r c S D) (x : RMemAt l pm q n t M) (hM : M.good) (hk3 : D.kind = 3) (hD : D.good c) :
  K.GC Tryz.prog w0 98 #[.pointer (some ⟨r, 27, none⟩), K.pa pm] [gp, l] (fun v post => ∃ gp' l', v = .tuple #[] ∧ post = [gp', l'] ∧ gp' = rtkPt r c S (dStep3 c n D M).1 ∧ RMemAt l' pm q n t (dStep3 c n D M).2) := by
 have hD0 := hD
 refine K.GC.mk (n := 110) Tryz.func98 rfl rfl [.pointer (some ⟨r, 27, none⟩), K.pa pm] rfl rfl ?_
 intro fr w hS
 replace hS : K.Sat w0 [gp, l, fr] w := hS
 refine K.s (K.s (K.g (K.q [.pointer (some ⟨r, 27, none⟩), .pointer (some ⟨r, 27, none⟩), .pointer (some ⟨r, 33, none⟩)] ?_)))
 refine K.d (K.iv D.line) ((hS.blk 0 rfl hgp).cell rfl) ?_
 by_cases h_1 : (D.line : Int) = (0 : Int)
 ·
  refine K.ye (D.line : Int) (0 : Int) h_1 ?_
  refine K.z (K.t (K.h (K.r (K.u ?_))))
  have e : dStep3 c n D M = (D, M) := if_pos (by omega)
  refine ⟨.inr rfl, rfl, (.tuple #[]), K.res0 rfl, [gp, l], ?_, hS.pick [0, 1, 2]⟩
  exact ⟨_, _, rfl, rfl, by rw [e]; exact hgp, by rw [e]; exact x⟩
 ·
  refine K.xe (D.line : Int) (0 : Int) h_1 ?_
  refine K.z (K.t (K.f (K.k (K.t (K.s (K.s (K.g (K.q [.pointer (some ⟨r, 27, none⟩), .pointer (some ⟨r, 27, none⟩), .pointer (some ⟨r, 32, none⟩)] ?_))))))))
  refine K.d (K.iv D.kind) ((hS.blk 0 rfl hgp).cell rfl) ?_
  refine K.ye (D.kind : Int) (3 : Int) (hk3) ?_
  refine K.z (K.t (K.h (K.s (K.g (K.q [.pointer (some ⟨r, 27, none⟩), K.pa pm] ?_)))))
  refine K.l (K.OW.gcall hS [0, 1] [2] [.pointer (some ⟨r, 27, none⟩), K.pa pm] (rtRec_ok _ _ _ _ _ _ c hc S D M _ _ hgp x (by assumption) hk3 hD0 (by omega)) ?_)
  clear hS; rintro _ _ w ⟨g_2, l_3, rfl, rfl, h_4, x_5⟩ hS
  replace hS : K.Sat w0 [g_2, l_3, fr] w := hS
  refine K.z (K.t (K.r (K.u ?_)))
  have e : dStep3 c n D M = dRec c n D M := if_neg (by omega)
  refine ⟨.inr rfl, rfl, (.tuple #[]), K.res0 rfl, [g_2, l_3], ?_, hS.pick [0, 1, 2]⟩
  exact ⟨_, _, rfl, rfl, by rw [e]; exact h_4, by rw [e]; exact x_5⟩
end Go.Proofs.YtbfafebfkdbglaaGreat
