/- A push: its steps. -/
import Derived.Test.YtkmndplicmaahaaGreatFl11
import Derived.Test.YtkmndplicmaahaaGreatKn
namespace Go.Proofs.YtkmndplicmaahaaGreat
open Go.RowKit
set_option linter.unusedVariables false
attribute [local irreducible] K.KW K.RW K.DW K.OW K.QR K.KC
/-- a push, and its step -/
structure PushS where
 t : Int
 pc : Int
 top : Int
 slot : Int
def PushS.good (S : PushS) : Prop := isInt S.t ∧ isW S.top ∧ isInt S.slot
abbrev pushPt (p b : Nat) (S : PushS) : K.Cs := [K.pt p 167 [.pointer (some ⟨b, 0, none⟩), .int .i64 S.t, .int .i64 S.pc, .int .u64 S.top, .int .i64 S.slot]]
def pushStep (c : Cfg) (n : Nat) (S : PushS) (M : MemM) : PushS × MemM :=
 if S.pc = 3 then (S, M)
 else if S.pc = 0 then (⟨S.t, 1, (M.accL n S.t (-2)).2.old, S.slot⟩, (M.accL n S.t (-2)).1)
 else if S.pc = 1 then (⟨S.t, 2, S.top, S.slot⟩, (M.accS n S.t (aftS c S.slot) (topI (toI S.top) 0)).1)
 else if (M.accW n S.t (-2) S.top (newerI S.slot S.top)).2.done = true then (⟨S.t, 3, S.top, S.slot⟩, (M.accW n S.t (-2) S.top (newerI S.slot S.top)).1)
 else (⟨S.t, 0, S.top, S.slot⟩, (M.accW n S.t (-2) S.top (newerI S.slot S.top)).1)
theorem pushStep_good {c : Cfg} {n : Nat} {S : PushS} {M : MemM} (hS : S.good) (hM : M.good) : (pushStep c n S M).1.good ∧ (pushStep c n S M).2.good := by
 unfold pushStep
 split
 ·exact ⟨hS, hM⟩
 split
 ·exact ⟨⟨hS.1, (accL_good (n := n) (th := S.t) (i := -2) hM).2, hS.2.2⟩, (accL_good hM).1⟩
 split
 ·exact ⟨⟨hS.1, hS.2.1, hS.2.2⟩, accS_good hM (topI_w (by omega))⟩
 split
 ·exact ⟨⟨hS.1, hS.2.1, hS.2.2⟩, accW_good hM (newerI_w _ _)⟩
 ·exact ⟨⟨hS.1, hS.2.1, hS.2.2⟩, accW_good hM (newerI_w _ _)⟩
set_option maxHeartbeats 1000000 in
set_option maxRecDepth 100000 in
theorem pushDone_ok (w0 : World) (p b : Nat) (S : PushS) (gp : K.Cs) (hgp : gp = pushPt p b S) :
  K.GC Tryz.prog w0 102 #[.pointer (some ⟨p, 0, none⟩)] [gp] (fun v post => post = [gp] ∧ ((v = .bool true ∧ S.pc = 3) ∨ (v = .bool false ∧ ¬ S.pc = 3))) := by
 refine K.GC.mk (n := 13) Tryz.func102 rfl rfl [.pointer (some ⟨p, 0, none⟩)] rfl rfl ?_
 intro fr w hS
 replace hS : K.Sat w0 [gp, fr] w := hS
 refine K.s (K.g (K.q [.bool false] (K.z (K.t (K.s (K.g (K.q [.pointer (some ⟨p, 0, none⟩), .bool false, .bool false, .pointer (some ⟨p, 0, none⟩), .pointer (some ⟨p, 0, none⟩), .pointer (some ⟨p, 0, none⟩), .pointer (some ⟨p, 2, none⟩)] ?_)))))))
 refine K.d (.int .i64 S.pc) ((hS.blk 0 rfl hgp).cell rfl) ?_
 by_cases h_1 : (S.pc : Int) = (3 : Int)
 ·
  refine K.ye (S.pc : Int) (3 : Int) h_1 ?_
  refine K.q [.bool true, .bool true] (K.z (K.t (K.r ?_)))
  refine ⟨.inr rfl, rfl, (.bool true), K.res1 rfl rfl, [gp], ?_, hS.pick [0, 1]⟩
  exact ⟨rfl, .inl ⟨rfl, by omega⟩⟩
 ·
  refine K.xe (S.pc : Int) (3 : Int) h_1 ?_
  refine K.q [.bool false, .bool false] (K.z (K.t (K.r ?_)))
  refine ⟨.inr rfl, rfl, (.bool false), K.res1 rfl rfl, [gp], ?_, hS.pick [0, 1]⟩
  exact ⟨rfl, .inr ⟨rfl, by omega⟩⟩
set_option maxHeartbeats 1000000 in
set_option maxRecDepth 100000 in
theorem pushStep_ok (w0 : World) (p b pm q n t : Nat) (c : Cfg) (hc : cfgOk c) (S : PushS) (M : MemM) (gp gl l : K.Cs) (hgp : gp = pushPt p b S) (hgl : gl = layPt b c) (x : MemAt l pm q n t M) (hM : M.good) (hS : S.good) :
  K.GC Tryz.prog w0 53 #[.pointer (some ⟨p, 0, none⟩), .pointer (some ⟨pm, 0, none⟩)] [gp, gl, l] (fun v post => ∃ gp' l', v = .bool (decide ((pushStep c n S M).1.pc = 3)) ∧ post = [gp', gl, l'] ∧ gp' = pushPt p b (pushStep c n S M).1 ∧ MemAt l' pm q n t (pushStep c n S M).2) := by
 obtain ⟨hSt, hS1, hS2⟩ := hS
 refine K.GC.mk (n := 103) Tryz.func53 rfl rfl [.pointer (some ⟨p, 0, none⟩), .pointer (some ⟨pm, 0, none⟩)] rfl rfl ?_
 intro fr w hS
 replace hS : K.Sat w0 [gp, gl, l, fr] w := hS
 refine K.s (K.g (K.q [.bool false] (K.z (K.t (K.s (K.s (K.g (K.q [.pointer (some ⟨p, 0, none⟩)] ?_))))))))
 refine K.l (K.OW.gcall hS [0] [1, 2, 3] [.pointer (some ⟨p, 0, none⟩)] (pushDone_ok _ _ _ ⟨S.t, S.pc, S.top, S.slot⟩ _ hgp) ?_)
 clear hS; rintro _ _ w ⟨rfl, (⟨rfl, h_1⟩ | ⟨rfl, h_2⟩)⟩ hS
 ·
  replace hS : K.Sat w0 [gp, gl, l, fr] w := hS
  refine K.z (K.t (K.h (K.s (K.g (K.q [.bool true] (K.z (K.t (K.r (K.u ?_)))))))))
  have e : pushStep c n S M = (S, M) := by unfold pushStep; rw [if_pos (by omega)]
  refine ⟨.inr rfl, rfl, (.bool true), K.res1 rfl rfl, [gp, gl, l], ?_, hS.pick [0, 1, 2, 3]⟩
  exact ⟨_, _, by rw [e]; exact congrArg Value.bool (decide_eq_true (by omega)).symm, rfl, by rw [e]; exact hgp, by rw [e]; exact x⟩
 ·
  replace hS : K.Sat w0 [gp, gl, l, fr] w := hS
  refine K.z (K.t (K.f (K.k (K.t (K.s (K.s (K.g (K.q [.pointer (some ⟨p, 0, none⟩), .pointer (some ⟨p, 0, none⟩), .pointer (some ⟨p, 0, none⟩), .pointer (some ⟨p, 2, none⟩)] ?_))))))))
  refine K.d (.int .i64 S.pc) ((hS.blk 0 rfl hgp).cell rfl) ?_
  refine K.z (K.t ?_)
  refine K.KW.block ?_
  refine K.s (K.g ?_)
  by_cases h_3 : (S.pc : Int) = (0 : Int)
  ·
   refine K.ye (S.pc : Int) (0 : Int) h_3 ?_
   refine K.q [.bool true] (K.z (K.t (K.h (K.s ?_))))
   refine K.KW.gdrawn [0] hS (by kernel_rfl) ?_
   clear hS; intro w hS
   refine K.p 0 rfl (.pointer (some ⟨p, 0, none⟩)) (hS.pick [0]) ?_
   refine K.p 1 rfl (.pointer (some ⟨pm, 0, none⟩)) (hS.pick [0]) ?_
   refine K.p 2 rfl (.pointer (some ⟨p, 0, none⟩)) (hS.pick [0]) ?_
   refine K.p 3 rfl (.pointer (some ⟨p, 0, none⟩)) (hS.pick [0]) ?_
   refine K.p 4 rfl (.pointer (some ⟨p, 0, none⟩)) (hS.pick [0]) ?_
   refine K.p 5 rfl (.pointer (some ⟨p, 1, none⟩)) (hS.pick [0]) ?_
   refine K.o_ 6 rfl (.int .i64 S.t) (fun w hS => ((hS.blk 0 rfl hgp).cell rfl)) (hS.pick [0]) ?_
   refine K.b 7 rfl (.pointer (some ⟨p, 0, none⟩)) (hS.pick [0]) ?_
   refine K.b 8 rfl (.pointer (some ⟨p, 0, none⟩)) (hS.pick [0]) ?_
   refine K.b 9 rfl (.pointer (some ⟨p, 0, none⟩)) (hS.pick [0]) ?_
   refine K.b 10 rfl (.pointer (some ⟨p, 0, none⟩)) (hS.pick [0]) ?_
   refine K.c 11 rfl (K.QR.ld1 (v := .pointer (some ⟨b, 0, none⟩)) rfl rfl (by kernel_rfl) ((hS.blk 0 rfl hgp).cell rfl)) (hS.pick [0]) ?_
   refine K.DW.l 12 rfl (by kernel_rfl) rfl (K.OW.kcall hS [.pointer (some ⟨b, 0, none⟩)] (lFree _ c  _ (by assumption) (hS.blk 1 rfl hgl)) ?_)
   rintro _ w ⟨rfl, c_4⟩
   replace hS := hS.no c_4
   refine ⟨.inl (hS.pick [0]), ?_⟩
   refine K.DW.l 13 rfl (by kernel_rfl) rfl (K.OW.gcall hS [2] [0, 1, 3] [.pointer (some ⟨pm, 0, none⟩), .int .i64 S.t, .int .i64 (-2)] (mLoad_ok _ _ _ _ _ _ _ x S.t ((-2) : Int) (by first | omega | assumption | exact log_int (by assumption) _ _ | exact aft_int (by assumption) _ | exact ann_int (by assumption) _ (by omega)) ) ?_)
   clear hS; rintro _ _ w ⟨l_5, rfl, rfl, x_6⟩ hS
   replace hS : K.Sat w0 [l_5, gp, gl, fr] w := hS
   have hw_7 : isW (M.accL n S.t ((-2) : Int)).2.old := (accL_good (by assumption)).2
   refine ⟨.inl (hS.pick [1]), ?_⟩
   refine K.b 14 rfl (.pointer (some ⟨p, 0, none⟩)) (hS.pick [1]) ?_
   refine K.b 15 rfl (.pointer (some ⟨p, 3, none⟩)) (hS.pick [1]) ?_
   refine K.DW.l 16 rfl (by kernel_rfl) rfl (K.OW.gst 1 [.int .u64 ((M.accL n S.t ((-2) : Int)).2.old)] _ hS hgp ?_)
   clear hS; intro w g_8 hg_9 hS
   replace hS : K.Sat w0 [l_5, g_8, gl, fr] w := hS
   refine ⟨.inr (by kernel_rfl), ?_⟩
   refine K.DW.done (by kernel_rfl) ?_
   refine K.t (K.g (K.q [.pointer (some ⟨p, 0, none⟩), .pointer (some ⟨p, 0, none⟩), .pointer (some ⟨p, 0, none⟩), .pointer (some ⟨p, 2, none⟩)] ?_))
   refine K.l (K.OW.gst 1 [.int .i64 1] _ hS hg_9 ?_)
   clear hS; intro w g_10 hg_11 hS
   replace hS : K.Sat w0 [l_5, g_10, gl, fr] w := hS
   refine K.z ?_
   refine K.blk_normal ?_
   refine K.t (K.s (K.g (K.q [.pointer (some ⟨p, 0, none⟩), .pointer (some ⟨p, 0, none⟩), .pointer (some ⟨p, 0, none⟩), .pointer (some ⟨p, 2, none⟩)] ?_)))
   refine K.d (.int .i64 1) ((hS.blk 1 rfl hg_11).cell rfl) ?_
   refine K.q [.bool false, .bool false] (K.z (K.t (K.r ?_)))
   have e : pushStep c n S M = (⟨S.t, 1, (M.accL n S.t ((-2) : Int)).2.old, S.slot⟩, ((M.accL n S.t ((-2) : Int)).1)) := by unfold pushStep; (repeat' split) <;> first | rfl | omega | simp_all
   refine ⟨.inr rfl, rfl, (.bool false), K.res1 rfl rfl, [g_10, gl, l_5], ?_, hS.pick [1, 2, 0, 3]⟩
   exact ⟨_, _, by rw [e]; rfl, rfl, by rw [e]; exact hg_11, by rw [e]; exact x_6⟩
  ·
   refine K.xe (S.pc : Int) (0 : Int) h_3 ?_
   refine K.q [.bool false] (K.z (K.t (K.f (K.s (K.g ?_)))))
   by_cases h_12 : (S.pc : Int) = (1 : Int)
   ·
    refine K.ye (S.pc : Int) (1 : Int) h_12 ?_
    refine K.q [.bool true] (K.z (K.t (K.h (K.s ?_))))
    refine K.KW.gdrawn [0] hS (by kernel_rfl) ?_
    clear hS; intro w hS
    refine K.p 0 rfl (.pointer (some ⟨pm, 0, none⟩)) (hS.pick [0]) ?_
    refine K.p 1 rfl (.pointer (some ⟨p, 0, none⟩)) (hS.pick [0]) ?_
    refine K.p 2 rfl (.pointer (some ⟨p, 0, none⟩)) (hS.pick [0]) ?_
    refine K.p 3 rfl (.pointer (some ⟨p, 0, none⟩)) (hS.pick [0]) ?_
    refine K.p 4 rfl (.pointer (some ⟨p, 1, none⟩)) (hS.pick [0]) ?_
    refine K.o_ 5 rfl (.int .i64 S.t) (fun w hS => ((hS.blk 0 rfl hgp).cell rfl)) (hS.pick [0]) ?_
    refine K.p 6 rfl (.pointer (some ⟨p, 0, none⟩)) (hS.pick [0]) ?_
    refine K.p 7 rfl (.pointer (some ⟨p, 0, none⟩)) (hS.pick [0]) ?_
    refine K.p 8 rfl (.pointer (some ⟨p, 0, none⟩)) (hS.pick [0]) ?_
    refine K.p 9 rfl (.pointer (some ⟨p, 0, none⟩)) (hS.pick [0]) ?_
    refine K.o_ 10 rfl (.pointer (some ⟨b, 0, none⟩)) (fun w hS => ((hS.blk 0 rfl hgp).cell rfl)) (hS.pick [0]) ?_
    refine K.p 11 rfl (.pointer (some ⟨p, 0, none⟩)) (hS.pick [0]) ?_
    refine K.p 12 rfl (.pointer (some ⟨p, 0, none⟩)) (hS.pick [0]) ?_
    refine K.p 13 rfl (.pointer (some ⟨p, 4, none⟩)) (hS.pick [0]) ?_
    refine K.o_ 14 rfl (.int .i64 S.slot) (fun w hS => ((hS.blk 0 rfl hgp).cell rfl)) (hS.pick [0]) ?_
    refine K.p 16 rfl (.pointer (some ⟨p, 0, none⟩)) (hS.pick [0]) ?_
    refine K.p 17 rfl (.pointer (some ⟨p, 0, none⟩)) (hS.pick [0]) ?_
    refine K.p 18 rfl (.pointer (some ⟨p, 3, none⟩)) (hS.pick [0]) ?_
    refine K.o_ 19 rfl (.int .u64 S.top) (fun w hS => ((hS.blk 0 rfl hgp).cell rfl)) (hS.pick [0]) ?_
    refine K.DW.l 15 rfl (by kernel_rfl) rfl (K.OW.kcall hS [.pointer (some ⟨b, 0, none⟩), .int .i64 S.slot] (lAfter _ c S.slot _ (by assumption) (hS.blk 1 rfl hgl)) ?_)
    rintro _ w ⟨rfl, c_13⟩
    replace hS := hS.no c_13
    refine ⟨.inl (hS.pick [0]), ?_⟩
    refine K.DW.l 20 rfl (by kernel_rfl) rfl (K.OW.gcall hS [] [0, 1, 2, 3] [.int .u64 S.top] (to_ok _ S.top (by first | assumption | (unfold isW; omega))) ?_)
    clear hS; rintro _ _ w ⟨rfl, rfl⟩ hS
    replace hS : K.Sat w0 [gp, gl, l, fr] w := hS
    refine ⟨.inl (hS.pick [0]), ?_⟩
    refine K.DW.l 21 rfl (by kernel_rfl) rfl (K.OW.gcall hS [] [0, 1, 2, 3] [.int .i64 (toI S.top), .int .u32 0] (top_ok _ (toI S.top) (0 : Int) (by first | omega | (unfold toI; omega)) (by first | omega | decide)) ?_)
    clear hS; rintro _ _ w ⟨rfl, rfl⟩ hS
    replace hS : K.Sat w0 [gp, gl, l, fr] w := hS
    refine ⟨.inl (hS.pick [0]), ?_⟩
    refine K.DW.l 22 rfl (by kernel_rfl) rfl (K.OW.gcall hS [2] [0, 1, 3] [.pointer (some ⟨pm, 0, none⟩), .int .i64 S.t, .int .i64 (aftS c S.slot), .int .u64 (topI (toI S.top) (0 : Int))] (mStore_ok _ _ _ _ _ _ _ x S.t (aftS c S.slot) (by first | omega | assumption | exact log_int (by assumption) _ _ | exact aft_int (by assumption) _ | exact ann_int (by assumption) _ (by omega)) (topI (toI S.top) (0 : Int))) ?_)
    clear hS; rintro _ _ w ⟨l_14, rfl, rfl, x_15⟩ hS
    replace hS : K.Sat w0 [l_14, gp, gl, fr] w := hS
    refine ⟨.inl (hS.pick [1]), ?_⟩
    refine K.DW.done (by kernel_rfl) ?_
    refine K.t (K.g (K.q [.pointer (some ⟨p, 0, none⟩), .pointer (some ⟨p, 0, none⟩), .pointer (some ⟨p, 0, none⟩), .pointer (some ⟨p, 2, none⟩)] ?_))
    refine K.l (K.OW.gst 1 [.int .i64 2] _ hS hgp ?_)
    clear hS; intro w g_16 hg_17 hS
    replace hS : K.Sat w0 [l_14, g_16, gl, fr] w := hS
    refine K.z ?_
    refine K.blk_normal ?_
    refine K.t (K.s (K.g (K.q [.pointer (some ⟨p, 0, none⟩), .pointer (some ⟨p, 0, none⟩), .pointer (some ⟨p, 0, none⟩), .pointer (some ⟨p, 2, none⟩)] ?_)))
    refine K.d (.int .i64 2) ((hS.blk 1 rfl hg_17).cell rfl) ?_
    refine K.q [.bool false, .bool false] (K.z (K.t (K.r ?_)))
    have e : pushStep c n S M = (⟨S.t, 2, S.top, S.slot⟩, ((M.accS n S.t (aftS c S.slot) (topI (toI S.top) (0 : Int))).1)) := by unfold pushStep; (repeat' split) <;> first | rfl | omega | simp_all
    refine ⟨.inr rfl, rfl, (.bool false), K.res1 rfl rfl, [g_16, gl, l_14], ?_, hS.pick [1, 2, 0, 3]⟩
    exact ⟨_, _, by rw [e]; rfl, rfl, by rw [e]; exact hg_17, by rw [e]; exact x_15⟩
   ·
    refine K.xe (S.pc : Int) (1 : Int) h_12 ?_
    refine K.q [.bool false] (K.z (K.t (K.f (K.s (K.g (K.q [.pointer (some ⟨p, 0, none⟩), .pointer (some ⟨p, 0, none⟩), .pointer (some ⟨p, 0, none⟩), .pointer (some ⟨p, 2, none⟩)] ?_))))))
    refine K.l (K.OW.gst 0 [.int .i64 0] _ hS hgp ?_)
    clear hS; intro w g_18 hg_19 hS
    replace hS : K.Sat w0 [g_18, gl, l, fr] w := hS
    refine K.z (K.t (K.s ?_))
    refine K.KW.gdrawn [0] hS (by kernel_rfl) ?_
    clear hS; intro w hS
    refine K.p 0 rfl (.pointer (some ⟨pm, 0, none⟩)) (hS.pick [0]) ?_
    refine K.p 1 rfl (.pointer (some ⟨p, 0, none⟩)) (hS.pick [0]) ?_
    refine K.p 2 rfl (.pointer (some ⟨p, 0, none⟩)) (hS.pick [0]) ?_
    refine K.p 3 rfl (.pointer (some ⟨p, 0, none⟩)) (hS.pick [0]) ?_
    refine K.p 4 rfl (.pointer (some ⟨p, 1, none⟩)) (hS.pick [0]) ?_
    refine K.o_ 5 rfl (.int .i64 S.t) (fun w hS => ((hS.blk 0 rfl hg_19).cell rfl)) (hS.pick [0]) ?_
    refine K.p 6 rfl (.pointer (some ⟨p, 0, none⟩)) (hS.pick [0]) ?_
    refine K.p 7 rfl (.pointer (some ⟨p, 0, none⟩)) (hS.pick [0]) ?_
    refine K.p 8 rfl (.pointer (some ⟨p, 0, none⟩)) (hS.pick [0]) ?_
    refine K.p 9 rfl (.pointer (some ⟨p, 0, none⟩)) (hS.pick [0]) ?_
    refine K.o_ 10 rfl (.pointer (some ⟨b, 0, none⟩)) (fun w hS => ((hS.blk 0 rfl hg_19).cell rfl)) (hS.pick [0]) ?_
    refine K.p 12 rfl (.pointer (some ⟨p, 0, none⟩)) (hS.pick [0]) ?_
    refine K.p 13 rfl (.pointer (some ⟨p, 0, none⟩)) (hS.pick [0]) ?_
    refine K.p 14 rfl (.pointer (some ⟨p, 3, none⟩)) (hS.pick [0]) ?_
    refine K.o_ 15 rfl (.int .u64 S.top) (fun w hS => ((hS.blk 0 rfl hg_19).cell rfl)) (hS.pick [0]) ?_
    refine K.p 16 rfl (.pointer (some ⟨p, 0, none⟩)) (hS.pick [0]) ?_
    refine K.p 17 rfl (.pointer (some ⟨p, 0, none⟩)) (hS.pick [0]) ?_
    refine K.p 18 rfl (.pointer (some ⟨p, 4, none⟩)) (hS.pick [0]) ?_
    refine K.o_ 19 rfl (.int .i64 S.slot) (fun w hS => ((hS.blk 0 rfl hg_19).cell rfl)) (hS.pick [0]) ?_
    refine K.p 20 rfl (.pointer (some ⟨p, 0, none⟩)) (hS.pick [0]) ?_
    refine K.p 21 rfl (.pointer (some ⟨p, 0, none⟩)) (hS.pick [0]) ?_
    refine K.p 22 rfl (.pointer (some ⟨p, 3, none⟩)) (hS.pick [0]) ?_
    refine K.o_ 23 rfl (.int .u64 S.top) (fun w hS => ((hS.blk 0 rfl hg_19).cell rfl)) (hS.pick [0]) ?_
    refine K.DW.l 11 rfl (by kernel_rfl) rfl (K.OW.kcall hS [.pointer (some ⟨b, 0, none⟩)] (lFree _ c  _ (by assumption) (hS.blk 1 rfl hgl)) ?_)
    rintro _ w ⟨rfl, c_20⟩
    replace hS := hS.no c_20
    refine ⟨.inl (hS.pick [0]), ?_⟩
    refine K.DW.l 24 rfl (by kernel_rfl) rfl (K.OW.gcall hS [] [0, 1, 2, 3] [.int .i64 S.slot, .int .u64 S.top] (newer_ok _ S.slot S.top (by first | omega | (unfold toI; omega)) (by first | assumption | (unfold isW; omega))) ?_)
    clear hS; rintro _ _ w ⟨rfl, rfl⟩ hS
    replace hS : K.Sat w0 [g_18, gl, l, fr] w := hS
    refine ⟨.inl (hS.pick [0]), ?_⟩
    refine K.DW.l 25 rfl (by kernel_rfl) rfl (K.OW.gcall hS [2] [0, 1, 3] [.pointer (some ⟨pm, 0, none⟩), .int .i64 S.t, .int .i64 (-2), .int .u64 S.top, .int .u64 (newerI S.slot S.top)] (mSwap2_ok _ _ _ _ _ _ _ x S.t ((-2) : Int) (by first | omega | assumption | exact log_int (by assumption) _ _ | exact aft_int (by assumption) _ | exact ann_int (by assumption) _ (by omega)) S.top (newerI S.slot S.top)) ?_)
    clear hS; rintro _ _ w ⟨l_23, rfl, x_24, (⟨rfl, h_21⟩ | ⟨rfl, h_22⟩)⟩ hS
    ·
     replace hS : K.Sat w0 [l_23, g_18, gl, fr] w := hS
     refine ⟨.inl (hS.pick [1]), ?_⟩
     refine K.DW.done (by kernel_rfl) ?_
     refine K.t (K.h (K.g (K.q [.pointer (some ⟨p, 0, none⟩), .pointer (some ⟨p, 0, none⟩), .pointer (some ⟨p, 0, none⟩), .pointer (some ⟨p, 2, none⟩)] ?_)))
     refine K.l (K.OW.gst 1 [.int .i64 3] _ hS hg_19 ?_)
     clear hS; intro w g_25 hg_26 hS
     replace hS : K.Sat w0 [l_23, g_25, gl, fr] w := hS
     refine K.z ?_
     refine K.blk_normal ?_
     refine K.t (K.s (K.g (K.q [.pointer (some ⟨p, 0, none⟩), .pointer (some ⟨p, 0, none⟩), .pointer (some ⟨p, 0, none⟩), .pointer (some ⟨p, 2, none⟩)] ?_)))
     refine K.d (.int .i64 3) ((hS.blk 1 rfl hg_26).cell rfl) ?_
     refine K.q [.bool true, .bool true] (K.z (K.t (K.r ?_)))
     have e : pushStep c n S M = (⟨S.t, 3, S.top, S.slot⟩, ((M.accW n S.t ((-2) : Int) S.top (newerI S.slot S.top)).1)) := by unfold pushStep; (repeat' split) <;> first | rfl | omega | simp_all
     refine ⟨.inr rfl, rfl, (.bool true), K.res1 rfl rfl, [g_25, gl, l_23], ?_, hS.pick [1, 2, 0, 3]⟩
     exact ⟨_, _, by rw [e]; rfl, rfl, by rw [e]; exact hg_26, by rw [e]; exact x_24⟩
    ·
     replace hS : K.Sat w0 [l_23, g_18, gl, fr] w := hS
     refine ⟨.inl (hS.pick [1]), ?_⟩
     refine K.DW.done (by kernel_rfl) ?_
     refine K.t (K.f (K.k ?_))
     refine K.blk_normal ?_
     refine K.t (K.s (K.g (K.q [.pointer (some ⟨p, 0, none⟩), .pointer (some ⟨p, 0, none⟩), .pointer (some ⟨p, 0, none⟩), .pointer (some ⟨p, 2, none⟩)] ?_)))
     refine K.d (.int .i64 0) ((hS.blk 1 rfl hg_19).cell rfl) ?_
     refine K.q [.bool false, .bool false] (K.z (K.t (K.r ?_)))
     have e : pushStep c n S M = (⟨S.t, 0, S.top, S.slot⟩, ((M.accW n S.t ((-2) : Int) S.top (newerI S.slot S.top)).1)) := by unfold pushStep; (repeat' split) <;> first | rfl | omega | simp_all
     refine ⟨.inr rfl, rfl, (.bool false), K.res1 rfl rfl, [g_18, gl, l_23], ?_, hS.pick [1, 2, 0, 3]⟩
     exact ⟨_, _, by rw [e]; rfl, rfl, by rw [e]; exact hg_19, by rw [e]; exact x_24⟩
end Go.Proofs.YtkmndplicmaahaaGreat
