import Derived.Test.YtbfafebfkdbglaaGreatFl12
import Derived.Test.YtbfafebfkdbglaaGreatFl9c
import Derived.Test.YtbfafebfkdbglaaGreatKn
/- Layer 12: the document's Give. -/
namespace Go.Proofs.YtbfafebfkdbglaaGreat
open Go.RowKit
set_option linter.unusedVariables false
attribute [local irreducible] K.KW K.RW K.DW K.OW K.QR K.KC
def rgvPt (r : Nat) (c : Cfg) (S : GvS) : K.Cs := [K.pt r 111 [.int .i64 c.th, .int .i64 c.sl, .int .i64 c.lo, .int .i64 c.bu, .int .i64 S.t, .int .i64 S.part, .int .i64 S.slot, .int .i64 c.th, .int .i64 c.sl, .int .i64 c.lo, .int .i64 c.bu, .int .i64 S.push.t, .int .i64 (lineOf S.push.pc), .int .u64 S.push.top, .int .i64 S.push.slot]]
theorem gvEl_start {p b : Nat} {t s : Int} {P P' : PushS} {g : K.Cs} (h : GvEl p b ⟨t, 1, s, P⟩ g) : GvEl p b ⟨t, 1, s, P'⟩ g := by
 obtain ⟨qa, gp, g1, e1, e2, e3⟩ := h
 refine ⟨qa, gp, g1, e1, e2, ?_⟩
 rcases e3 with h | ⟨h, _⟩ | h
 ·exact .inl h
 ·have h : (1 : Int) = 2 := h; omega
 ·have h : (1 : Int) = 0 := h; omega
set_option maxHeartbeats 1000000 in
set_option maxRecDepth 100000 in
theorem rgPush0 (w0 : World) (r pm q n t : Nat) (c : Cfg) (hc : cfgOk c) (S : GvS) (M : MemM) (gp l : K.Cs) (e0 : S.push.pc = 0) (hgp : gp = [K.pt r 111 [.int .i64 c.th, .int .i64 c.sl, .int .i64 c.lo, .int .i64 c.bu, .int .i64 S.t, .int .i64 S.part, .int .i64 S.slot, .int .i64 c.th, .int .i64 c.sl, .int .i64 c.lo, .int .i64 c.bu, .int .i64 S.push.t, .int .i64 1, .int .u64 S.push.top, .int .i64 S.push.slot]]) (x : RMemAt l pm q n t M) (hM : M.good) (hS : S.push.good) :
  K.GC Tryz.prog w0 106 #[.pointer (some ⟨r, 7, none⟩), .pointer (some ⟨pm, 0, none⟩)] [gp, l] (fun v post => ∃ gp' l', v = .tuple #[] ∧ post = [gp', l'] ∧ gp' = rgvPt r c ⟨S.t, S.part, S.slot, (pushStep c n S.push M).1⟩ ∧ RMemAt l' pm q n t (pushStep c n S.push M).2) := by
 obtain ⟨hSt, hS1, hS2⟩ := hS
 have hS12 := hS1; unfold isW at hS12
 refine K.GC.mk (n := 83) Tryz.func106 rfl rfl [.pointer (some ⟨r, 7, none⟩), .pointer (some ⟨pm, 0, none⟩)] rfl rfl ?_
 intro fr w hS
 replace hS : K.Sat w0 [gp, l, fr] w := hS
 refine K.s (K.s (K.g (K.q [.pointer (some ⟨r, 7, none⟩), .pointer (some ⟨r, 7, none⟩), .pointer (some ⟨r, 12, none⟩)] ?_)))
 refine K.d (.int .i64 1) ((hS.blk 0 rfl hgp).cell rfl) ?_
 refine K.q [.bool true] (K.z (K.t (K.h (K.s (K.g (K.q [.pointer (some ⟨r, 7, none⟩), .pointer (some ⟨pm, 0, none⟩), .pointer (some ⟨r, 7, none⟩), .pointer (some ⟨r, 7, none⟩), .pointer (some ⟨r, 11, none⟩)] ?_))))))
 refine K.d (.int .i64 S.push.t) ((hS.blk 0 rfl hgp).cell rfl) ?_
 refine K.l (K.OW.gcall hS [1] [0, 2] [.pointer (some ⟨pm, 0, none⟩), .int .i64 1, .int .i64 S.push.t, .int .i64 (-2), .int .u64 0, .int .u64 0] (rmDo1_ok _ _ _ _ _ _ _ x S.push.t ((-2) : Int) (0 : Int) (0 : Int) (by omega) (by first | omega | assumption | exact int_int (by assumption) _ | exact gen_int (by assumption) _ | exact aft_int (by assumption) _ | exact ann_int (by assumption) _ (by omega))) ?_)
 clear hS; rintro _ _ w ⟨l_1, rfl, rfl, x_2⟩ hS
 replace hS : K.Sat w0 [l_1, gp, fr] w := hS
 have hw_3 : isW (M.accL n S.push.t ((-2) : Int)).2.old := (accL_good (by assumption)).2
 refine K.q [.int .u64 ((M.accL n S.push.t ((-2) : Int)).2.old), .pointer (some ⟨r, 7, none⟩), .pointer (some ⟨r, 13, none⟩)] ?_
 refine K.l (K.OW.gst 1 [.int .u64 ((M.accL n S.push.t ((-2) : Int)).2.old)] _ hS hgp ?_)
 clear hS; intro w g_4 hg_5 hS
 replace hS : K.Sat w0 [l_1, g_4, fr] w := hS
 refine K.z (K.t (K.s (K.g (K.q [.pointer (some ⟨r, 7, none⟩), .pointer (some ⟨r, 7, none⟩), .pointer (some ⟨r, 12, none⟩)] ?_))))
 refine K.l (K.OW.gst 1 [.int .i64 2] _ hS hg_5 ?_)
 clear hS; intro w g_6 hg_7 hS
 replace hS : K.Sat w0 [l_1, g_6, fr] w := hS
 refine K.z (K.t (K.r (K.u ?_)))
 have e : pushStep c n S.push M = (⟨S.push.t, 1, (M.accL n S.push.t ((-2) : Int)).2.old, S.push.slot⟩, ((M.accL n S.push.t ((-2) : Int)).1)) := by unfold pushStep; rw [if_neg (by omega), if_pos e0]
 refine ⟨.inr rfl, rfl, (.tuple #[]), K.res0 rfl, [g_6, l_1], ?_, hS.pick [1, 0, 2]⟩
 exact ⟨_, _, rfl, rfl, by rw [e]; exact hg_7, by rw [e]; exact x_2⟩
set_option maxHeartbeats 1000000 in
set_option maxRecDepth 100000 in
theorem rgPush1 (w0 : World) (r pm q n t : Nat) (c : Cfg) (hc : cfgOk c) (S : GvS) (M : MemM) (gp l : K.Cs) (e0 : S.push.pc = 1) (hgp : gp = [K.pt r 111 [.int .i64 c.th, .int .i64 c.sl, .int .i64 c.lo, .int .i64 c.bu, .int .i64 S.t, .int .i64 S.part, .int .i64 S.slot, .int .i64 c.th, .int .i64 c.sl, .int .i64 c.lo, .int .i64 c.bu, .int .i64 S.push.t, .int .i64 2, .int .u64 S.push.top, .int .i64 S.push.slot]]) (x : RMemAt l pm q n t M) (hM : M.good) (hS : S.push.good) :
  K.GC Tryz.prog w0 106 #[.pointer (some ⟨r, 7, none⟩), .pointer (some ⟨pm, 0, none⟩)] [gp, l] (fun v post => ∃ gp' l', v = .tuple #[] ∧ post = [gp', l'] ∧ gp' = rgvPt r c ⟨S.t, S.part, S.slot, (pushStep c n S.push M).1⟩ ∧ RMemAt l' pm q n t (pushStep c n S.push M).2) := by
 obtain ⟨hSt, hS1, hS2⟩ := hS
 have hS12 := hS1; unfold isW at hS12
 refine K.GC.mk (n := 83) Tryz.func106 rfl rfl [.pointer (some ⟨r, 7, none⟩), .pointer (some ⟨pm, 0, none⟩)] rfl rfl ?_
 intro fr w hS
 replace hS : K.Sat w0 [gp, l, fr] w := hS
 refine K.s (K.s (K.g (K.q [.pointer (some ⟨r, 7, none⟩), .pointer (some ⟨r, 7, none⟩), .pointer (some ⟨r, 12, none⟩)] ?_)))
 refine K.d (.int .i64 2) ((hS.blk 0 rfl hgp).cell rfl) ?_
 refine K.q [.bool false] (K.z (K.t (K.f (K.k (K.t (K.s (K.s (K.g (K.q [.pointer (some ⟨r, 7, none⟩), .pointer (some ⟨r, 7, none⟩), .pointer (some ⟨r, 12, none⟩)] ?_)))))))))
 refine K.d (.int .i64 2) ((hS.blk 0 rfl hgp).cell rfl) ?_
 refine K.q [.bool true] (K.z (K.t (K.h (K.s ?_))))
 refine K.KW.gdrawn [0] hS (by kernel_rfl) ?_
 clear hS; intro w hS
 refine K.p 0 rfl (.pointer (some ⟨pm, 0, none⟩)) (hS.pick [0]) ?_
 refine K.p 1 rfl (.pointer (some ⟨r, 7, none⟩)) (hS.pick [0]) ?_
 refine K.p 2 rfl (.pointer (some ⟨r, 7, none⟩)) (hS.pick [0]) ?_
 refine K.p 3 rfl (.pointer (some ⟨r, 11, none⟩)) (hS.pick [0]) ?_
 refine K.o_ 4 rfl (.int .i64 S.push.t) (fun w hS => ((hS.blk 0 rfl hgp).cell rfl)) (hS.pick [0]) ?_
 refine K.p 5 rfl (.pointer (some ⟨r, 7, none⟩)) (hS.pick [0]) ?_
 refine K.p 6 rfl (.pointer (some ⟨r, 7, none⟩)) (hS.pick [0]) ?_
 refine K.p 7 rfl (.pointer (some ⟨r, 7, none⟩)) (hS.pick [0]) ?_
 refine K.m 8 rfl (fun w hS => K.QR.ldN [.int .i64 c.th, .int .i64 c.sl, .int .i64 c.lo, .int .i64 c.bu] rfl rfl (by kernel_rfl) (by kernel_rfl) (K.cells (K.cl ((hS.blk 0 rfl hgp).cell rfl) (K.cl ((hS.blk 0 rfl hgp).cell rfl) (K.cl ((hS.blk 0 rfl hgp).cell rfl) (K.cl ((hS.blk 0 rfl hgp).cell rfl) K.cl0)))))) (hS.pick [0]) ?_
 refine K.p 9 rfl (.pointer (some ⟨r, 7, none⟩)) (hS.pick [0]) ?_
 refine K.p 10 rfl (.pointer (some ⟨r, 7, none⟩)) (hS.pick [0]) ?_
 refine K.p 11 rfl (.pointer (some ⟨r, 14, none⟩)) (hS.pick [0]) ?_
 refine K.o_ 12 rfl (.int .i64 S.push.slot) (fun w hS => ((hS.blk 0 rfl hgp).cell rfl)) (hS.pick [0]) ?_
 refine K.p 14 rfl (.pointer (some ⟨r, 7, none⟩)) (hS.pick [0]) ?_
 refine K.p 15 rfl (.pointer (some ⟨r, 7, none⟩)) (hS.pick [0]) ?_
 refine K.p 16 rfl (.pointer (some ⟨r, 13, none⟩)) (hS.pick [0]) ?_
 refine K.o_ 17 rfl (.int .u64 S.push.top) (fun w hS => ((hS.blk 0 rfl hgp).cell rfl)) (hS.pick [0]) ?_
 refine K.m 18 rfl (fun w hS => K.QR.remu64 (S.push.top : Int) 4294967296 ((S.push.top : Int) % 4294967296) (by kernel_rfl) (by omega) (by omega)) (hS.pick [0]) ?_
 refine K.DW.l 13 rfl (by kernel_rfl) rfl (K.OW.gcall hS [] [0, 1, 2] [.agg #[.int .i64 c.th, .int .i64 c.sl, .int .i64 c.lo, .int .i64 c.bu], .int .i64 S.push.slot] (rafter_ok _ c (by assumption) S.push.slot) ?_)
 clear hS; rintro _ _ w ⟨rfl, rfl⟩ hS
 replace hS : K.Sat w0 [gp, l, fr] w := hS
 refine ⟨.inl (hS.pick [0]), ?_⟩
 refine K.DW.l 19 rfl (by kernel_rfl) rfl (K.OW.gcall hS [1] [0, 2] [.pointer (some ⟨pm, 0, none⟩), .int .i64 2, .int .i64 S.push.t, .int .i64 (aftS c S.push.slot), .int .u64 0, .int .u64 ((S.push.top : Int) % 4294967296)] (rmDo2_ok _ _ _ _ _ _ _ x S.push.t (aftS c S.push.slot) (0 : Int) ((S.push.top : Int) % 4294967296) (by omega) (by first | omega | assumption | exact int_int (by assumption) _ | exact gen_int (by assumption) _ | exact aft_int (by assumption) _ | exact ann_int (by assumption) _ (by omega))) ?_)
 clear hS; rintro _ _ w ⟨l_1, rfl, rfl, x_2⟩ hS
 replace hS : K.Sat w0 [l_1, gp, fr] w := hS
 refine ⟨.inl (hS.pick [1]), ?_⟩
 refine K.DW.done (by kernel_rfl) ?_
 refine K.t (K.s (K.g (K.q [.pointer (some ⟨r, 7, none⟩), .pointer (some ⟨r, 7, none⟩), .pointer (some ⟨r, 12, none⟩)] ?_)))
 refine K.l (K.OW.gst 1 [.int .i64 3] _ hS hgp ?_)
 clear hS; intro w g_3 hg_4 hS
 replace hS : K.Sat w0 [l_1, g_3, fr] w := hS
 refine K.z (K.t (K.r (K.u ?_)))
 have e : pushStep c n S.push M = (⟨S.push.t, 2, S.push.top, S.push.slot⟩, ((M.accS n S.push.t (aftS c S.push.slot) ((S.push.top : Int) % 4294967296)).1)) := by unfold pushStep; rw [if_neg (by omega), if_neg (by omega), if_pos e0]; rw [top_low]
 refine ⟨.inr rfl, rfl, (.tuple #[]), K.res0 rfl, [g_3, l_1], ?_, hS.pick [1, 0, 2]⟩
 exact ⟨_, _, rfl, rfl, by rw [e]; exact hg_4, by rw [e]; exact x_2⟩
set_option maxHeartbeats 1000000 in
set_option maxRecDepth 100000 in
theorem rgPush2 (w0 : World) (r pm q n t : Nat) (c : Cfg) (hc : cfgOk c) (S : GvS) (M : MemM) (gp l : K.Cs) (e0 : S.push.pc = 2) (hgp : gp = [K.pt r 111 [.int .i64 c.th, .int .i64 c.sl, .int .i64 c.lo, .int .i64 c.bu, .int .i64 S.t, .int .i64 S.part, .int .i64 S.slot, .int .i64 c.th, .int .i64 c.sl, .int .i64 c.lo, .int .i64 c.bu, .int .i64 S.push.t, .int .i64 3, .int .u64 S.push.top, .int .i64 S.push.slot]]) (x : RMemAt l pm q n t M) (hM : M.good) (hS : S.push.good) :
  K.GC Tryz.prog w0 106 #[.pointer (some ⟨r, 7, none⟩), .pointer (some ⟨pm, 0, none⟩)] [gp, l] (fun v post => ∃ gp' l', v = .tuple #[] ∧ post = [gp', l'] ∧ gp' = rgvPt r c ⟨S.t, S.part, S.slot, (pushStep c n S.push M).1⟩ ∧ RMemAt l' pm q n t (pushStep c n S.push M).2) := by
 obtain ⟨hSt, hS1, hS2⟩ := hS
 have hS12 := hS1; unfold isW at hS12
 refine K.GC.mk (n := 83) Tryz.func106 rfl rfl [.pointer (some ⟨r, 7, none⟩), .pointer (some ⟨pm, 0, none⟩)] rfl rfl ?_
 intro fr w hS
 replace hS : K.Sat w0 [gp, l, fr] w := hS
 refine K.s (K.s (K.g (K.q [.pointer (some ⟨r, 7, none⟩), .pointer (some ⟨r, 7, none⟩), .pointer (some ⟨r, 12, none⟩)] ?_)))
 refine K.d (.int .i64 3) ((hS.blk 0 rfl hgp).cell rfl) ?_
 refine K.q [.bool false] (K.z (K.t (K.f (K.k (K.t (K.s (K.s (K.g (K.q [.pointer (some ⟨r, 7, none⟩), .pointer (some ⟨r, 7, none⟩), .pointer (some ⟨r, 12, none⟩)] ?_)))))))))
 refine K.d (.int .i64 3) ((hS.blk 0 rfl hgp).cell rfl) ?_
 refine K.q [.bool false] (K.z (K.t (K.f (K.k (K.t (K.s (K.g (K.q [.pointer (some ⟨r, 7, none⟩), .pointer (some ⟨r, 7, none⟩), .pointer (some ⟨r, 12, none⟩)] ?_))))))))
 refine K.d (.int .i64 3) ((hS.blk 0 rfl hgp).cell rfl) ?_
 refine K.q [.bool true] (K.z (K.t (K.h (K.s (K.g (K.q [.pointer (some ⟨r, 7, none⟩), .pointer (some ⟨r, 7, none⟩), .pointer (some ⟨r, 12, none⟩)] ?_))))))
 refine K.l (K.OW.gst 0 [.int .i64 1] _ hS hgp ?_)
 clear hS; intro w g_1 hg_2 hS
 replace hS : K.Sat w0 [g_1, l, fr] w := hS
 refine K.z (K.t (K.s ?_))
 refine K.KW.gdrawn [0] hS (by kernel_rfl) ?_
 clear hS; intro w hS
 refine K.p 0 rfl (.pointer (some ⟨pm, 0, none⟩)) (hS.pick [0]) ?_
 refine K.p 1 rfl (.pointer (some ⟨r, 7, none⟩)) (hS.pick [0]) ?_
 refine K.p 2 rfl (.pointer (some ⟨r, 7, none⟩)) (hS.pick [0]) ?_
 refine K.p 3 rfl (.pointer (some ⟨r, 11, none⟩)) (hS.pick [0]) ?_
 refine K.o_ 4 rfl (.int .i64 S.push.t) (fun w hS => ((hS.blk 0 rfl hg_2).cell rfl)) (hS.pick [0]) ?_
 refine K.p 5 rfl (.pointer (some ⟨r, 7, none⟩)) (hS.pick [0]) ?_
 refine K.p 6 rfl (.pointer (some ⟨r, 7, none⟩)) (hS.pick [0]) ?_
 refine K.p 7 rfl (.pointer (some ⟨r, 13, none⟩)) (hS.pick [0]) ?_
 refine K.o_ 8 rfl (.int .u64 S.push.top) (fun w hS => ((hS.blk 0 rfl hg_2).cell rfl)) (hS.pick [0]) ?_
 refine K.p 9 rfl (.pointer (some ⟨r, 7, none⟩)) (hS.pick [0]) ?_
 refine K.p 10 rfl (.pointer (some ⟨r, 7, none⟩)) (hS.pick [0]) ?_
 refine K.p 11 rfl (.pointer (some ⟨r, 14, none⟩)) (hS.pick [0]) ?_
 refine K.o_ 12 rfl (.int .i64 S.push.slot) (fun w hS => ((hS.blk 0 rfl hg_2).cell rfl)) (hS.pick [0]) ?_
 refine K.b 13 rfl (.pointer (some ⟨r, 7, none⟩)) (hS.pick [0]) ?_
 refine K.b 14 rfl (.pointer (some ⟨r, 7, none⟩)) (hS.pick [0]) ?_
 refine K.b 15 rfl (.pointer (some ⟨r, 13, none⟩)) (hS.pick [0]) ?_
 refine K.c 16 rfl (K.QR.ld1 (v := .int .u64 S.push.top) rfl rfl (by kernel_rfl) ((hS.blk 0 rfl hg_2).cell rfl)) (hS.pick [0]) ?_
 refine K.DW.l 17 rfl (by kernel_rfl) rfl (K.OW.gcall hS [] [0, 1, 2] [.int .u64 S.push.top] (rver_ok _ S.push.top (by first | assumption | (unfold isW; omega))) ?_)
 clear hS; rintro _ _ w ⟨rfl, rfl⟩ hS
 replace hS : K.Sat w0 [g_1, l, fr] w := hS
 refine ⟨.inl (hS.pick [0]), ?_⟩
 refine K.c 18 rfl (K.QR.turn (v := .int .u32 (IntKind.u32.wrap (((verI S.push.top) : Int) + (1 : Int)))) (K.QR.k (v := .int .u32 (IntKind.u32.wrap (((verI S.push.top) : Int) + (1 : Int)))) (by kernel_rfl)) (congrArg (Value.int .u32) (show (IntKind.u32.wrap (((verI S.push.top) : Int) + (1 : Int)) : Int) = ((((verI S.push.top)) + (1)) % 4294967296 : Int) from wrapU32 _))) (hS.pick [0]) ?_
 refine K.DW.l 19 rfl (by kernel_rfl) rfl (K.OW.gcall hS [] [0, 1, 2] [.int .i64 S.push.slot, .int .u32 ((((verI S.push.top)) + (1)) % 4294967296)] (rtop_ok _ S.push.slot ((((verI S.push.top)) + (1)) % 4294967296) (by first | omega | (unfold toI; omega)) (by first | omega | decide)) ?_)
 clear hS; rintro _ _ w ⟨rfl, rfl⟩ hS
 replace hS : K.Sat w0 [g_1, l, fr] w := hS
 refine ⟨.inl (hS.pick [0]), ?_⟩
 refine K.DW.l 20 rfl (by kernel_rfl) rfl (K.OW.gcall hS [1] [0, 2] [.pointer (some ⟨pm, 0, none⟩), .int .i64 3, .int .i64 S.push.t, .int .i64 (-2), .int .u64 S.push.top, .int .u64 (topI S.push.slot ((((verI S.push.top)) + (1)) % 4294967296))] (rmDo3_ok _ _ _ _ _ _ _ x S.push.t ((-2) : Int) S.push.top (topI S.push.slot ((((verI S.push.top)) + (1)) % 4294967296)) (by omega) (by first | omega | assumption | exact int_int (by assumption) _ | exact gen_int (by assumption) _ | exact aft_int (by assumption) _ | exact ann_int (by assumption) _ (by omega))) ?_)
 clear hS; rintro _ _ w ⟨l_3, rfl, rfl, x_4⟩ hS
 replace hS : K.Sat w0 [l_3, g_1, fr] w := hS
 refine ⟨.inl (hS.pick [1]), ?_⟩
 refine K.b 21 rfl (.bool ((M.accW n S.push.t ((-2) : Int) S.push.top (topI S.push.slot ((((verI S.push.top)) + (1)) % 4294967296))).2.done)) (hS.pick [1]) ?_
 cases hb_5 : (M.accW n S.push.t ((-2) : Int) S.push.top (topI S.push.slot ((((verI S.push.top)) + (1)) % 4294967296))).2.done
 ·
  refine K.DW.done (by kernel_rfl) ?_
  refine K.t (K.f (K.k ?_))
  have e : pushStep c n S.push M = (⟨S.push.t, 0, S.push.top, S.push.slot⟩, ((M.accW n S.push.t ((-2) : Int) S.push.top (topI S.push.slot ((((verI S.push.top)) + (1)) % 4294967296))).1)) := by unfold pushStep newerI; rw [if_neg (by omega), if_neg (by omega), if_neg (by omega), if_neg (by rw [hb_5]; decide)]
  refine ⟨.inl rfl, rfl, (.tuple #[]), K.res0 rfl, [g_1, l_3], ?_, hS.pick [1, 0, 2]⟩
  exact ⟨_, _, rfl, rfl, by rw [e]; exact hg_2, by rw [e]; exact x_4⟩
 ·
  refine K.DW.done (by kernel_rfl) ?_
  refine K.t (K.h (K.g (K.q [.pointer (some ⟨r, 7, none⟩), .pointer (some ⟨r, 7, none⟩), .pointer (some ⟨r, 12, none⟩)] ?_)))
  refine K.l (K.OW.gst 1 [.int .i64 0] _ hS hg_2 ?_)
  clear hS; intro w g_6 hg_7 hS
  replace hS : K.Sat w0 [l_3, g_6, fr] w := hS
  refine K.z ?_
  have e : pushStep c n S.push M = (⟨S.push.t, 3, S.push.top, S.push.slot⟩, ((M.accW n S.push.t ((-2) : Int) S.push.top (topI S.push.slot ((((verI S.push.top)) + (1)) % 4294967296))).1)) := by unfold pushStep newerI; rw [if_neg (by omega), if_neg (by omega), if_neg (by omega), if_pos hb_5]
  refine ⟨.inl rfl, rfl, (.tuple #[]), K.res0 rfl, [g_6, l_3], ?_, hS.pick [1, 0, 2]⟩
  exact ⟨_, _, rfl, rfl, by rw [e]; exact hg_7, by rw [e]; exact x_4⟩
set_option maxHeartbeats 1000000 in
set_option maxRecDepth 100000 in
theorem rgPush3 (w0 : World) (r pm q n t : Nat) (c : Cfg) (hc : cfgOk c) (S : GvS) (M : MemM) (gp l : K.Cs) (e0 : S.push.pc = 3) (hgp : gp = [K.pt r 111 [.int .i64 c.th, .int .i64 c.sl, .int .i64 c.lo, .int .i64 c.bu, .int .i64 S.t, .int .i64 S.part, .int .i64 S.slot, .int .i64 c.th, .int .i64 c.sl, .int .i64 c.lo, .int .i64 c.bu, .int .i64 S.push.t, .int .i64 0, .int .u64 S.push.top, .int .i64 S.push.slot]]) (x : RMemAt l pm q n t M) (hM : M.good) (hS : S.push.good) :
  K.GC Tryz.prog w0 106 #[.pointer (some ⟨r, 7, none⟩), .pointer (some ⟨pm, 0, none⟩)] [gp, l] (fun v post => ∃ gp' l', v = .tuple #[] ∧ post = [gp', l'] ∧ gp' = rgvPt r c ⟨S.t, S.part, S.slot, (pushStep c n S.push M).1⟩ ∧ RMemAt l' pm q n t (pushStep c n S.push M).2) := by
 obtain ⟨hSt, hS1, hS2⟩ := hS
 have hS12 := hS1; unfold isW at hS12
 refine K.GC.mk (n := 83) Tryz.func106 rfl rfl [.pointer (some ⟨r, 7, none⟩), .pointer (some ⟨pm, 0, none⟩)] rfl rfl ?_
 intro fr w hS
 replace hS : K.Sat w0 [gp, l, fr] w := hS
 refine K.s (K.s (K.g (K.q [.pointer (some ⟨r, 7, none⟩), .pointer (some ⟨r, 7, none⟩), .pointer (some ⟨r, 12, none⟩)] ?_)))
 refine K.d (.int .i64 0) ((hS.blk 0 rfl hgp).cell rfl) ?_
 refine K.q [.bool false] (K.z (K.t (K.f (K.k (K.t (K.s (K.s (K.g (K.q [.pointer (some ⟨r, 7, none⟩), .pointer (some ⟨r, 7, none⟩), .pointer (some ⟨r, 12, none⟩)] ?_)))))))))
 refine K.d (.int .i64 0) ((hS.blk 0 rfl hgp).cell rfl) ?_
 refine K.q [.bool false] (K.z (K.t (K.f (K.k (K.t (K.s (K.g (K.q [.pointer (some ⟨r, 7, none⟩), .pointer (some ⟨r, 7, none⟩), .pointer (some ⟨r, 12, none⟩)] ?_))))))))
 refine K.d (.int .i64 0) ((hS.blk 0 rfl hgp).cell rfl) ?_
 refine K.q [.bool false] (K.z (K.t (K.f (K.k ?_))))
 have e : pushStep c n S.push M = (⟨S.push.t, 3, S.push.top, S.push.slot⟩, M) := by unfold pushStep; rw [if_pos (by omega), ← e0]
 refine ⟨.inl rfl, rfl, (.tuple #[]), K.res0 rfl, [gp, l], ?_, hS.pick [0, 1, 2]⟩
 exact ⟨_, _, rfl, rfl, by rw [e]; exact hgp, by rw [e]; exact x⟩
theorem rgPush_ok (w0 : World) (r pm q n t : Nat) (c : Cfg) (hc : cfgOk c) (S : GvS) (M : MemM) (gp l : K.Cs) (hp : pcOk S.push.pc) (hgp : gp = rgvPt r c S) (x : RMemAt l pm q n t M) (hM : M.good) (hS : S.push.good) :
  K.GC Tryz.prog w0 106 #[.pointer (some ⟨r, 7, none⟩), .pointer (some ⟨pm, 0, none⟩)] [gp, l] (fun v post => ∃ gp' l', v = .tuple #[] ∧ post = [gp', l'] ∧ gp' = rgvPt r c ⟨S.t, S.part, S.slot, (pushStep c n S.push M).1⟩ ∧ RMemAt l' pm q n t (pushStep c n S.push M).2) := by
 rcases hp with e | e | e | e
 ·exact rgPush0 w0 r pm q n t c hc S M gp l e (by rw [hgp]; unfold rgvPt; rw [e]; rfl) x hM hS
 ·exact rgPush1 w0 r pm q n t c hc S M gp l e (by rw [hgp]; unfold rgvPt; rw [e]; rfl) x hM hS
 ·exact rgPush2 w0 r pm q n t c hc S M gp l e (by rw [hgp]; unfold rgvPt; rw [e]; rfl) x hM hS
 ·exact rgPush3 w0 r pm q n t c hc S M gp l e (by rw [hgp]; unfold rgvPt; rw [e]; rfl) x hM hS
set_option maxHeartbeats 1000000 in
set_option maxRecDepth 100000 in
theorem r12int_ok (w0 : World) (c : Cfg) (hc : cfgOk c) (t : Int) :
  K.GC Tryz.prog w0 40 #[.agg #[.int .i64 c.th, .int .i64 c.sl, .int .i64 c.lo, .int .i64 c.bu], .int .i64 7, .int .i64 t] [] (fun v post => v = .int .i64 (intS c t) ∧ post = []) := by
 refine K.GC.mk (n := 12) Tryz.func40 rfl rfl [.agg #[.int .i64 c.th, .int .i64 c.sl, .int .i64 c.lo, .int .i64 c.bu], .int .i64 7, .int .i64 t] rfl rfl ?_
 intro fr w hS
 replace hS : K.Sat w0 [fr] w := hS
 refine K.s (K.g ?_)
 refine K.l (K.OW.gnew 23 [.int .i64 c.th, .int .i64 c.sl, .int .i64 c.lo, .int .i64 c.bu] hS ?_)
 clear hS; intro w r_1 g_2 hg_3 hS
 refine K.q [.int .i64 0] (K.z (K.t (K.s (K.g ?_))))
 refine K.a (K.QR.ldN [.int .i64 c.th, .int .i64 c.sl, .int .i64 c.lo, .int .i64 c.bu] rfl rfl (by kernel_rfl) (by kernel_rfl) (K.cells (K.cl ((hS.blk 0 rfl hg_3).cell rfl) (K.cl ((hS.blk 0 rfl hg_3).cell rfl) (K.cl ((hS.blk 0 rfl hg_3).cell rfl) (K.cl ((hS.blk 0 rfl hg_3).cell rfl) K.cl0)))))) ?_
 refine K.q [.int .i64 7, .int .i64 t] ?_
 refine K.a (K.QR.bd [(0, .int .i64 7), (1, .int .i64 t)] [.int .i64 7, .int .i64 t, .int .i64 0] rfl rfl (by kernel_rfl)) ?_
 refine K.l (K.OW.gcall hS [] [0, 1] [.agg #[.int .i64 c.th, .int .i64 c.sl, .int .i64 c.lo, .int .i64 c.bu], .agg #[.int .i64 7, .int .i64 t, .int .i64 0]] (at_ok _ c (⟨7, t, 0⟩ : Nm) (by assumption)) ?_)
 clear hS; rintro _ _ w ⟨rfl, rfl⟩ hS
 replace hS : K.Sat w0 [g_2, fr] w := hS
 refine K.q [.int .i64 (atT (lasting c) (passing c) (⟨7, t, 0⟩ : Nm))] (K.z (K.t (K.r ?_)))
 refine ⟨.inr rfl, rfl, (.int .i64 (atT (lasting c) (passing c) (⟨7, t, 0⟩ : Nm))), K.res1 rfl rfl, [], ?_, hS.pick [1]⟩
 exact ⟨congrArg (Value.int .i64) (at_int hc t), rfl⟩
set_option maxHeartbeats 1000000 in
set_option maxRecDepth 100000 in
theorem rgStep_ok (w0 : World) (r pm q n t : Nat) (c : Cfg) (hc : cfgOk c) (S : GvS) (M : MemM) (gp l : K.Cs) (hpc : pcOk S.push.pc) (hq : S.part = 1 → S.push = ⟨S.t, 0, 0, S.slot⟩) (hgp : gp = rgvPt r c S) (x : RMemAt l pm q n t M) (hM : M.good) (hS : S.good) :
  K.GC Tryz.prog w0 52 #[.pointer (some ⟨r, 0, none⟩), .pointer (some ⟨pm, 0, none⟩)] [gp, l] (fun v post => ∃ gp' l', v = .tuple #[] ∧ post = [gp', l'] ∧ gp' = rgvPt r c (gvStep c n S M).1 ∧ RMemAt l' pm q n t (gvStep c n S M).2) := by
 have hSt := hS.t; have hSs := hS.slot; have hSp := hS.part; have hSq := hS.push
 refine K.GC.mk (n := 46) Tryz.func52 rfl rfl [.pointer (some ⟨r, 0, none⟩), .pointer (some ⟨pm, 0, none⟩)] rfl rfl ?_
 intro fr w hS
 replace hS : K.Sat w0 [gp, l, fr] w := hS
 refine K.s (K.s (K.g (K.q [.pointer (some ⟨r, 0, none⟩), .pointer (some ⟨r, 0, none⟩), .pointer (some ⟨r, 5, none⟩)] ?_)))
 refine K.d (.int .i64 S.part) ((hS.blk 0 rfl hgp).cell rfl) ?_
 by_cases h_1 : (S.part : Int) = (1 : Int)
 ·
  refine K.ye (S.part : Int) (1 : Int) h_1 ?_
  refine K.z (K.t (K.h (K.s ?_)))
  refine K.KW.gdrawn [0] hS (by kernel_rfl) ?_
  clear hS; intro w hS
  refine K.p 0 rfl (.pointer (some ⟨pm, 0, none⟩)) (hS.pick [0]) ?_
  refine K.p 1 rfl (.pointer (some ⟨r, 0, none⟩)) (hS.pick [0]) ?_
  refine K.p 2 rfl (.pointer (some ⟨r, 0, none⟩)) (hS.pick [0]) ?_
  refine K.p 3 rfl (.pointer (some ⟨r, 4, none⟩)) (hS.pick [0]) ?_
  refine K.o_ 4 rfl (.int .i64 S.t) (fun w hS => ((hS.blk 0 rfl hgp).cell rfl)) (hS.pick [0]) ?_
  refine K.p 5 rfl (.pointer (some ⟨r, 0, none⟩)) (hS.pick [0]) ?_
  refine K.p 6 rfl (.pointer (some ⟨r, 0, none⟩)) (hS.pick [0]) ?_
  refine K.p 7 rfl (.pointer (some ⟨r, 0, none⟩)) (hS.pick [0]) ?_
  refine K.m 8 rfl (fun w hS => K.QR.ldN [.int .i64 c.th, .int .i64 c.sl, .int .i64 c.lo, .int .i64 c.bu] rfl rfl (by kernel_rfl) (by kernel_rfl) (K.cells (K.cl ((hS.blk 0 rfl hgp).cell rfl) (K.cl ((hS.blk 0 rfl hgp).cell rfl) (K.cl ((hS.blk 0 rfl hgp).cell rfl) (K.cl ((hS.blk 0 rfl hgp).cell rfl) K.cl0)))))) (hS.pick [0]) ?_
  refine K.b 9 rfl (.pointer (some ⟨r, 0, none⟩)) (hS.pick [0]) ?_
  refine K.b 10 rfl (.pointer (some ⟨r, 0, none⟩)) (hS.pick [0]) ?_
  refine K.b 11 rfl (.pointer (some ⟨r, 4, none⟩)) (hS.pick [0]) ?_
  refine K.c 12 rfl (K.QR.ld1 (v := .int .i64 S.t) rfl rfl (by kernel_rfl) ((hS.blk 0 rfl hgp).cell rfl)) (hS.pick [0]) ?_
  refine K.DW.l 13 rfl (by kernel_rfl) rfl (K.OW.gcall hS [] [0, 1, 2] [.agg #[.int .i64 c.th, .int .i64 c.sl, .int .i64 c.lo, .int .i64 c.bu], .int .i64 7, .int .i64 S.t] (r12int_ok _ c (by first | assumption | (unfold cfgOk; decide)) S.t) ?_)
  clear hS; rintro _ _ w ⟨rfl, rfl⟩ hS
  replace hS : K.Sat w0 [gp, l, fr] w := hS
  refine ⟨.inl (hS.pick [0]), ?_⟩
  refine K.DW.l 14 rfl (by kernel_rfl) rfl (K.OW.gcall hS [1] [0, 2] [.pointer (some ⟨pm, 0, none⟩), .int .i64 2, .int .i64 S.t, .int .i64 (intS c S.t), .int .u64 0, .int .u64 0] (rmDo2_ok _ _ _ _ _ _ _ x S.t (intS c S.t) (0 : Int) (0 : Int) (by omega) (by first | omega | assumption | exact int_int (by assumption) _ | exact gen_int (by assumption) _ | exact aft_int (by assumption) _ | exact ann_int (by assumption) _ (by omega))) ?_)
  clear hS; rintro _ _ w ⟨l_2, rfl, rfl, x_3⟩ hS
  replace hS : K.Sat w0 [l_2, gp, fr] w := hS
  refine ⟨.inl (hS.pick [1]), ?_⟩
  refine K.DW.done (by kernel_rfl) ?_
  refine K.t (K.s (K.g (K.q [.pointer (some ⟨r, 0, none⟩), .pointer (some ⟨r, 0, none⟩), .pointer (some ⟨r, 5, none⟩)] ?_)))
  refine K.l (K.OW.gst 1 [.int .i64 2] _ hS hgp ?_)
  clear hS; intro w g_4 hg_5 hS
  replace hS : K.Sat w0 [l_2, g_4, fr] w := hS
  refine K.z (K.t (K.r (K.u ?_)))
  have e : gvStep c n S M = (⟨S.t, 2, S.slot, S.push⟩, ((M.accS n S.t (intS c S.t) (0 : Int)).1)) := by unfold gvStep; rw [if_neg (by omega), if_pos (by omega), ← hq (by omega)]
  refine ⟨.inr rfl, rfl, (.tuple #[]), K.res0 rfl, [g_4, l_2], ?_, hS.pick [1, 0, 2]⟩
  exact ⟨_, _, rfl, rfl, by rw [e]; exact hg_5, by rw [e]; exact x_3⟩
 ·
  refine K.xe (S.part : Int) (1 : Int) h_1 ?_
  refine K.z (K.t (K.f (K.k (K.t (K.s (K.g (K.q [.pointer (some ⟨r, 0, none⟩), .pointer (some ⟨r, 0, none⟩), .pointer (some ⟨r, 5, none⟩)] ?_)))))))
  refine K.d (.int .i64 S.part) ((hS.blk 0 rfl hgp).cell rfl) ?_
  by_cases h_6 : (S.part : Int) = (2 : Int)
  ·
   refine K.ye (S.part : Int) (2 : Int) h_6 ?_
   refine K.z (K.t (K.h (K.s (K.g (K.q [.pointer (some ⟨r, 0, none⟩), .pointer (some ⟨r, 0, none⟩), .pointer (some ⟨r, 7, none⟩), .pointer (some ⟨pm, 0, none⟩)] ?_)))))
   refine K.l (K.OW.gcall hS [0, 1] [2] [.pointer (some ⟨r, 7, none⟩), .pointer (some ⟨pm, 0, none⟩)] (rgPush_ok _ _ _ _ _ _ c hc S M _ _ hpc hgp x (by assumption) hSq) ?_)
   clear hS; rintro _ _ w ⟨g_7, l_8, rfl, rfl, h_9, x_10⟩ hS
   replace hS : K.Sat w0 [g_7, l_8, fr] w := hS
   refine K.z (K.t (K.s ?_))
   have hp2 : S.part = 2 := by omega
   have hpc2 : pcOk (pushStep c n S.push M).1.pc := pushStep_pc hpc
   cases hb_11 : decide ((pushStep c n S.push M).1.pc = 3)
   ·
    refine K.g (K.q [.pointer (some ⟨r, 0, none⟩), .pointer (some ⟨r, 0, none⟩), .pointer (some ⟨r, 7, none⟩), .pointer (some ⟨r, 12, none⟩)] ?_)
    refine K.d (.int .i64 (lineOf (pushStep c n S.push M).1.pc)) ((hS.blk 0 rfl h_9).cell rfl) ?_
    refine K.xe ((lineOf (pushStep c n S.push M).1.pc) : Int) (0 : Int) (line_f (of_decide_eq_false hb_11) hpc2) ?_
    refine K.z (K.t (K.f (K.k ?_)))
    have e : gvStep c n S M = (⟨S.t, S.part, S.slot, (pushStep c n S.push M).1⟩, (pushStep c n S.push M).2) := by unfold gvStep; rw [if_neg (by omega), if_neg (by omega), if_neg (of_decide_eq_false hb_11), hp2]
    refine ⟨.inl rfl, rfl, (.tuple #[]), K.res0 rfl, [g_7, l_8], ?_, hS.pick [0, 1, 2]⟩
    exact ⟨_, _, rfl, rfl, by rw [e]; exact h_9, by rw [e]; exact x_10⟩
   ·
    refine K.g (K.q [.pointer (some ⟨r, 0, none⟩), .pointer (some ⟨r, 0, none⟩), .pointer (some ⟨r, 7, none⟩), .pointer (some ⟨r, 12, none⟩)] ?_)
    refine K.d (.int .i64 (lineOf (pushStep c n S.push M).1.pc)) ((hS.blk 0 rfl h_9).cell rfl) ?_
    refine K.ye ((lineOf (pushStep c n S.push M).1.pc) : Int) (0 : Int) (line_t (of_decide_eq_true hb_11)) ?_
    refine K.z (K.t (K.h (K.g (K.q [.pointer (some ⟨r, 0, none⟩), .pointer (some ⟨r, 0, none⟩), .pointer (some ⟨r, 5, none⟩)] ?_))))
    refine K.l (K.OW.gst 0 [.int .i64 0] _ hS h_9 ?_)
    clear hS; intro w g_12 hg_13 hS
    replace hS : K.Sat w0 [g_12, l_8, fr] w := hS
    refine K.z ?_
    have e : gvStep c n S M = (⟨S.t, 0, S.slot, (pushStep c n S.push M).1⟩, (pushStep c n S.push M).2) := by unfold gvStep; rw [if_neg (by omega), if_neg (by omega), if_pos (of_decide_eq_true hb_11)]
    refine ⟨.inl rfl, rfl, (.tuple #[]), K.res0 rfl, [g_12, l_8], ?_, hS.pick [0, 1, 2]⟩
    exact ⟨_, _, rfl, rfl, by rw [e]; exact hg_13, by rw [e]; exact x_10⟩
  ·
   refine K.xe (S.part : Int) (2 : Int) h_6 ?_
   refine K.z (K.t (K.f (K.k ?_)))
   have e : gvStep c n S M = (S, M) := if_pos (by omega)
   refine ⟨.inl rfl, rfl, (.tuple #[]), K.res0 rfl, [gp, l], ?_, hS.pick [0, 1, 2]⟩
   exact ⟨_, _, rfl, rfl, by rw [e]; exact hgp, by rw [e]; exact x⟩
set_option maxHeartbeats 1000000 in
set_option maxRecDepth 100000 in
theorem rnewgv_ok (w0 : World) (c : Cfg) (tt sl : Int) :
  K.GC Tryz.prog w0 51 #[.agg #[.int .i64 c.th, .int .i64 c.sl, .int .i64 c.lo, .int .i64 c.bu], .int .i64 tt, .int .i64 sl] [] (fun v post => ∃ r g, v = .pointer (some ⟨r, 0, none⟩) ∧ post = [g] ∧ g = rgvPt r c ⟨tt, 1, sl, ⟨tt, 0, 0, sl⟩⟩) := by
 refine K.GC.mk (n := 16) Tryz.func51 rfl rfl [.agg #[.int .i64 c.th, .int .i64 c.sl, .int .i64 c.lo, .int .i64 c.bu], .int .i64 tt, .int .i64 sl] rfl rfl ?_
 intro fr w hS
 replace hS : K.Sat w0 [fr] w := hS
 refine K.s (K.g ?_)
 refine K.l (K.OW.gnew 23 [.int .i64 c.th, .int .i64 c.sl, .int .i64 c.lo, .int .i64 c.bu] hS ?_)
 clear hS; intro w r_1 g_2 hg_3 hS
 refine K.q [.pointer none] (K.z (K.t (K.s (K.g ?_))))
 refine K.a (K.QR.ldN [.int .i64 c.th, .int .i64 c.sl, .int .i64 c.lo, .int .i64 c.bu] rfl rfl (by kernel_rfl) (by kernel_rfl) (K.cells (K.cl ((hS.blk 0 rfl hg_3).cell rfl) (K.cl ((hS.blk 0 rfl hg_3).cell rfl) (K.cl ((hS.blk 0 rfl hg_3).cell rfl) (K.cl ((hS.blk 0 rfl hg_3).cell rfl) K.cl0)))))) ?_
 refine K.q [.int .i64 tt, .int .i64 sl] ?_
 refine K.a (K.QR.ldN [.int .i64 c.th, .int .i64 c.sl, .int .i64 c.lo, .int .i64 c.bu] rfl rfl (by kernel_rfl) (by kernel_rfl) (K.cells (K.cl ((hS.blk 0 rfl hg_3).cell rfl) (K.cl ((hS.blk 0 rfl hg_3).cell rfl) (K.cl ((hS.blk 0 rfl hg_3).cell rfl) (K.cl ((hS.blk 0 rfl hg_3).cell rfl) K.cl0)))))) ?_
 refine K.q [.int .i64 tt, .int .i64 sl] ?_
 refine K.a (K.QR.bd [(0, .agg #[.int .i64 c.th, .int .i64 c.sl, .int .i64 c.lo, .int .i64 c.bu]), (1, .int .i64 tt), (2, .int .i64 1), (4, .int .i64 sl)] [.int .i64 c.th, .int .i64 c.sl, .int .i64 c.lo, .int .i64 c.bu, .int .i64 tt, .int .i64 1, .int .u64 0, .int .i64 sl] rfl rfl (by kernel_rfl)) ?_
 refine K.a (K.QR.bd [(0, .agg #[.int .i64 c.th, .int .i64 c.sl, .int .i64 c.lo, .int .i64 c.bu]), (1, .int .i64 tt), (2, .int .i64 1), (3, .int .i64 sl), (4, .agg #[.int .i64 c.th, .int .i64 c.sl, .int .i64 c.lo, .int .i64 c.bu, .int .i64 tt, .int .i64 1, .int .u64 0, .int .i64 sl])] [.int .i64 c.th, .int .i64 c.sl, .int .i64 c.lo, .int .i64 c.bu, .int .i64 tt, .int .i64 1, .int .i64 sl, .int .i64 c.th, .int .i64 c.sl, .int .i64 c.lo, .int .i64 c.bu, .int .i64 tt, .int .i64 1, .int .u64 0, .int .i64 sl] rfl rfl (by kernel_rfl)) ?_
 refine K.l (K.OW.gnew 111 [.int .i64 c.th, .int .i64 c.sl, .int .i64 c.lo, .int .i64 c.bu, .int .i64 tt, .int .i64 1, .int .i64 sl, .int .i64 c.th, .int .i64 c.sl, .int .i64 c.lo, .int .i64 c.bu, .int .i64 tt, .int .i64 1, .int .u64 0, .int .i64 sl] hS ?_)
 clear hS; intro w r_4 g_5 hg_6 hS
 refine K.q [.pointer (some ⟨r_4, 0, none⟩)] (K.z (K.t (K.r ?_)))
 refine ⟨.inr rfl, rfl, (.pointer (some ⟨r_4, 0, none⟩)), K.res1 rfl rfl, [g_5], ?_, hS.pick [0, 2]⟩
 exact ⟨_, _, rfl, rfl, hg_6⟩
end Go.Proofs.YtbfafebfkdbglaaGreat
