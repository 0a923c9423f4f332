/- Layer 10: a machine of any kind. -/
import Derived.Test.YtajkickofkeemaaGreatLl10w
import Derived.Test.YtajkickofkeemaaGreatKh
import Derived.Test.YtajkickofkeemaaGreatFl9
import Derived.Test.YtajkickofkeemaaGreatKn
namespace Go.Proofs.YtajkickofkeemaaGreat
open Go.RowKit
set_option linter.unusedVariables false
attribute [local irreducible] K.KW K.RW K.DW K.OW K.QR K.KC
inductive MachE where
 | no
 | en (S : EntS)
 | le (S : LeaS)
 | ad (S : AdvS)
def MachEl (b : Nat) : MachE → Option Addr → Option Addr → Option Addr → K.Cs → Prop
 | .no, u, v, w, g => u = none ∧ v = none ∧ w = none ∧ g = []
 | .en S, u, v, w, g => ∃ p, u = some ⟨p, 0, none⟩ ∧ v = none ∧ w = none ∧ g = entPt p b S
 | .le S, u, v, w, g => ∃ p, u = none ∧ v = some ⟨p, 0, none⟩ ∧ w = none ∧ g = leaPt p b S
 | .ad S, u, v, w, g => ∃ p, u = none ∧ v = none ∧ w = some ⟨p, 0, none⟩ ∧ g = advPt p b S
def MachE.done : MachE → Bool
 | .no => true
 | .en S => S.done
 | .le S => S.done
 | .ad S => S.done
def MachE.moved : MachE → Bool
 | .ad S => S.moved
 | _ => false
def MachE.good : MachE → Prop
 | .no => True
 | .en S => S.good
 | .le S => S.good
 | .ad S => S.good
def stepE (c : Cfg) (n : Nat) : MachE → MemM → MachE × MemM
 | .no, M => (.no, M)
 | .en S, M => (.en (entStep c n S M).1, (entStep c n S M).2)
 | .le S, M => (.le (leaStep c n S M).1, (leaStep c n S M).2)
 | .ad S, M => (.ad (advStep c n S M).1, (advStep c n S M).2)
def newE (k t : Int) : MachE := if k = 0 then .en ⟨t, false, 0, false⟩ else if k = 1 then .le ⟨t, false⟩ else .ad ⟨t, false, 0, 0, 0, false⟩
theorem newE_good {k t : Int} (ht : isInt t) : (newE k t).good := by
 unfold newE
 split
 ·exact ⟨ht, isW00⟩
 split
 ·exact ht
 ·exact ⟨ht, isW00, ⟨Int.le_refl _, (by decide : (0 : Int) ≤ 64)⟩, .inr (.inl ⟨rfl, rfl⟩)⟩
theorem stepE_good {c : Cfg} (hc : cfgOk c) {n : Nat} {x : MachE} {M : MemM} (hx : x.good) (hM : M.good) : (stepE c n x M).1.good ∧ (stepE c n x M).2.good := by
 cases x with
 | no => exact ⟨hx, hM⟩
 | en S => exact entStep_good hx hM
 | le S => exact leaStep_good hx hM
 | ad S => exact advStep_good hc hx hM
theorem newE_done (k t : Int) : (newE k t).done = false := by unfold newE; split; rfl; split <;> rfl
set_option maxHeartbeats 1000000 in
set_option maxRecDepth 100000 in
theorem mach_done_en (w0 : World) (p b : Nat) (S : EntS) (gp : K.Cs) (hgp : gp = entPt p b S) :
  K.GC Tryz.prog w0 14 #[.agg #[.pointer (some ⟨p, 0, none⟩), .pointer none, .pointer none]] [gp] (fun v post => v = .bool S.done ∧ post = [gp]) := by
 refine K.GC.mk (n := 16) Tryz.func14 rfl rfl [.agg #[.pointer (some ⟨p, 0, none⟩), .pointer none, .pointer none]] rfl rfl ?_
 intro fr w hS
 replace hS : K.Sat w0 [gp, fr] w := hS
 refine K.s (K.g ?_)
 refine K.l (K.OW.gnew 39 [.pointer (some ⟨p, 0, none⟩), .pointer none, .pointer none] hS ?_)
 clear hS; intro w r_1 g_2 hg_3 hS
 refine K.q [.bool false] (K.z (K.t (K.s (K.g (K.q [.pointer (some ⟨r_1, 0, none⟩)] ?_)))))
 refine K.d (.pointer (some ⟨p, 0, none⟩)) ((hS.blk 0 rfl hg_3).cell rfl) ?_
 refine K.l (K.OW.gcall hS [1] [0, 2] [.pointer (some ⟨p, 0, none⟩)] (entDone_ok _ _ _ S _ hgp) ?_)
 clear hS; rintro _ _ w ⟨rfl, rfl⟩ hS
 replace hS : K.Sat w0 [gp, g_2, fr] w := hS
 cases hb_4 : S.done
 ·
  refine K.q [.bool false] ?_
  refine K.RW.skip rfl (by kernel_rfl) ?_
  refine K.RW.skip rfl (by kernel_rfl) ?_
  refine K.RW.skip rfl (by kernel_rfl) ?_
  refine K.q [.bool false, .bool false] ?_
  refine K.RW.skip rfl (by kernel_rfl) ?_
  refine K.RW.skip rfl (by kernel_rfl) ?_
  refine K.RW.skip rfl (by kernel_rfl) ?_
  refine K.q [.bool false, .bool false] (K.z (K.t (K.r ?_)))
  refine ⟨.inr rfl, rfl, (.bool false), K.res1 rfl rfl, [gp], ?_, hS.pick [0, 2]⟩
  exact ⟨by first | rfl | exact congrArg Value.bool hb_4.symm, rfl⟩
 ·
  refine K.q [.bool true, .pointer (some ⟨r_1, 1, none⟩)] ?_
  refine K.d (.pointer none) ((hS.blk 1 rfl hg_3).cell rfl) ?_
  refine K.l (K.OW.gcall hS [] [0, 1, 2] [.pointer none] (leaDone_nil _ ) ?_)
  clear hS; rintro _ _ w ⟨rfl, rfl⟩ hS
  replace hS : K.Sat w0 [gp, g_2, fr] w := hS
  refine K.q [.bool true, .bool true, .pointer (some ⟨r_1, 2, none⟩)] ?_
  refine K.d (.pointer none) ((hS.blk 1 rfl hg_3).cell rfl) ?_
  refine K.l (K.OW.gcall hS [] [0, 1, 2] [.pointer none] (advDone_nil _ ) ?_)
  clear hS; rintro _ _ w ⟨rfl, rfl⟩ hS
  replace hS : K.Sat w0 [gp, g_2, fr] w := hS
  refine K.q [.bool true, .bool true] (K.z (K.t (K.r ?_)))
  refine ⟨.inr rfl, rfl, (.bool true), K.res1 rfl rfl, [gp], ?_, hS.pick [0, 2]⟩
  exact ⟨by first | rfl | exact congrArg Value.bool hb_4.symm, rfl⟩
set_option maxHeartbeats 1000000 in
set_option maxRecDepth 100000 in
theorem mach_step_en (w0 : World) (p b pm q n t : Nat) (c : Cfg) (hc : cfgOk c) (S : EntS) (M : MemM) (gp gl l : K.Cs) (hgp : gp = entPt p b S) (hgl : gl = layPt b c) (x : MemAt l pm q n t M) (hM : M.good) (hS : S.good) :
  K.GC Tryz.prog w0 9 #[.agg #[.pointer (some ⟨p, 0, none⟩), .pointer none, .pointer none], .pointer (some ⟨pm, 0, none⟩)] [gp, gl, l] (fun v post => ∃ gp' l', v = .bool (entStep c n S M).1.done ∧ post = [gp', gl, l'] ∧ gp' = entPt p b (entStep c n S M).1 ∧ MemAt l' pm q n t (entStep c n S M).2) := by
 refine K.GC.mk (n := 23) Tryz.func9 rfl rfl [.agg #[.pointer (some ⟨p, 0, none⟩), .pointer none, .pointer none], .pointer (some ⟨pm, 0, none⟩)] rfl rfl ?_
 intro fr w hS
 replace hS : K.Sat w0 [gp, gl, l, fr] w := hS
 refine K.s (K.g ?_)
 refine K.l (K.OW.gnew 39 [.pointer (some ⟨p, 0, none⟩), .pointer none, .pointer none] hS ?_)
 clear hS; intro w r_1 g_2 hg_3 hS
 refine K.q [.bool false] (K.z (K.t (K.s (K.s (K.g (K.q [.pointer (some ⟨r_1, 0, none⟩)] ?_))))))
 refine K.d (.pointer (some ⟨p, 0, none⟩)) ((hS.blk 0 rfl hg_3).cell rfl) ?_
 refine K.q [.bool true] (K.z (K.t (K.h (K.s (K.g (K.q [.pointer (some ⟨r_1, 0, none⟩)] ?_))))))
 refine K.d (.pointer (some ⟨p, 0, none⟩)) ((hS.blk 0 rfl hg_3).cell rfl) ?_
 refine K.q [.pointer (some ⟨pm, 0, none⟩)] ?_
 refine K.l (K.OW.gcall hS [1, 2, 3] [0, 4] [.pointer (some ⟨p, 0, none⟩), .pointer (some ⟨pm, 0, none⟩)] (entStep_ok _ _ _ _ _ _ _ c (by first | assumption | (unfold cfgOk; decide)) S M _ _ _ hgp hgl x (by assumption) (by assumption)) ?_)
 clear hS; rintro _ _ w ⟨g_4, l_5, rfl, rfl, h_6, x_7⟩ hS
 replace hS : K.Sat w0 [g_4, gl, l_5, g_2, fr] w := hS
 obtain ⟨hS_8, hM_9⟩ := (entStep_good (by assumption) (by assumption) : (entStep c n S M).1.good ∧ (entStep c n S M).2.good)
 refine K.q [.bool ((entStep c n S M).1.done)] (K.z (K.t (K.r (K.u ?_))))
 refine ⟨.inr rfl, rfl, (.bool ((entStep c n S M).1.done)), K.res1 rfl rfl, [g_4, gl, l_5], ?_, hS.pick [0, 1, 2, 4]⟩
 exact ⟨_, _, rfl, rfl, h_6, x_7⟩
set_option maxHeartbeats 1000000 in
set_option maxRecDepth 100000 in
theorem mach_done_le (w0 : World) (p b : Nat) (S : LeaS) (gp : K.Cs) (hgp : gp = leaPt p b S) :
  K.GC Tryz.prog w0 14 #[.agg #[.pointer none, .pointer (some ⟨p, 0, none⟩), .pointer none]] [gp] (fun v post => v = .bool S.done ∧ post = [gp]) := by
 refine K.GC.mk (n := 16) Tryz.func14 rfl rfl [.agg #[.pointer none, .pointer (some ⟨p, 0, none⟩), .pointer none]] rfl rfl ?_
 intro fr w hS
 replace hS : K.Sat w0 [gp, fr] w := hS
 refine K.s (K.g ?_)
 refine K.l (K.OW.gnew 39 [.pointer none, .pointer (some ⟨p, 0, none⟩), .pointer none] hS ?_)
 clear hS; intro w r_1 g_2 hg_3 hS
 refine K.q [.bool false] (K.z (K.t (K.s (K.g (K.q [.pointer (some ⟨r_1, 0, none⟩)] ?_)))))
 refine K.d (.pointer none) ((hS.blk 0 rfl hg_3).cell rfl) ?_
 refine K.l (K.OW.gcall hS [] [0, 1, 2] [.pointer none] (entDone_nil _ ) ?_)
 clear hS; rintro _ _ w ⟨rfl, rfl⟩ hS
 replace hS : K.Sat w0 [g_2, gp, fr] w := hS
 refine K.q [.bool true, .pointer (some ⟨r_1, 1, none⟩)] ?_
 refine K.d (.pointer (some ⟨p, 0, none⟩)) ((hS.blk 0 rfl hg_3).cell rfl) ?_
 refine K.l (K.OW.gcall hS [1] [0, 2] [.pointer (some ⟨p, 0, none⟩)] (leaDone_ok _ _ _ S _ hgp) ?_)
 clear hS; rintro _ _ w ⟨rfl, rfl⟩ hS
 replace hS : K.Sat w0 [gp, g_2, fr] w := hS
 cases hb_4 : S.done
 ·
  refine K.q [.bool false, .bool false] ?_
  refine K.RW.skip rfl (by kernel_rfl) ?_
  refine K.RW.skip rfl (by kernel_rfl) ?_
  refine K.RW.skip rfl (by kernel_rfl) ?_
  refine K.q [.bool false, .bool false] (K.z (K.t (K.r ?_)))
  refine ⟨.inr rfl, rfl, (.bool false), K.res1 rfl rfl, [gp], ?_, hS.pick [0, 2]⟩
  exact ⟨by first | rfl | exact congrArg Value.bool hb_4.symm, rfl⟩
 ·
  refine K.q [.bool true, .bool true, .pointer (some ⟨r_1, 2, none⟩)] ?_
  refine K.d (.pointer none) ((hS.blk 1 rfl hg_3).cell rfl) ?_
  refine K.l (K.OW.gcall hS [] [0, 1, 2] [.pointer none] (advDone_nil _ ) ?_)
  clear hS; rintro _ _ w ⟨rfl, rfl⟩ hS
  replace hS : K.Sat w0 [gp, g_2, fr] w := hS
  refine K.q [.bool true, .bool true] (K.z (K.t (K.r ?_)))
  refine ⟨.inr rfl, rfl, (.bool true), K.res1 rfl rfl, [gp], ?_, hS.pick [0, 2]⟩
  exact ⟨by first | rfl | exact congrArg Value.bool hb_4.symm, rfl⟩
set_option maxHeartbeats 1000000 in
set_option maxRecDepth 100000 in
theorem mach_step_le (w0 : World) (p b pm q n t : Nat) (c : Cfg) (hc : cfgOk c) (S : LeaS) (M : MemM) (gp gl l : K.Cs) (hgp : gp = leaPt p b S) (hgl : gl = layPt b c) (x : MemAt l pm q n t M) (hM : M.good) (hS : S.good) :
  K.GC Tryz.prog w0 9 #[.agg #[.pointer none, .pointer (some ⟨p, 0, none⟩), .pointer none], .pointer (some ⟨pm, 0, none⟩)] [gp, gl, l] (fun v post => ∃ gp' l', v = .bool (leaStep c n S M).1.done ∧ post = [gp', gl, l'] ∧ gp' = leaPt p b (leaStep c n S M).1 ∧ MemAt l' pm q n t (leaStep c n S M).2) := by
 refine K.GC.mk (n := 23) Tryz.func9 rfl rfl [.agg #[.pointer none, .pointer (some ⟨p, 0, none⟩), .pointer none], .pointer (some ⟨pm, 0, none⟩)] rfl rfl ?_
 intro fr w hS
 replace hS : K.Sat w0 [gp, gl, l, fr] w := hS
 refine K.s (K.g ?_)
 refine K.l (K.OW.gnew 39 [.pointer none, .pointer (some ⟨p, 0, none⟩), .pointer none] hS ?_)
 clear hS; intro w r_1 g_2 hg_3 hS
 refine K.q [.bool false] (K.z (K.t (K.s (K.s (K.g (K.q [.pointer (some ⟨r_1, 0, none⟩)] ?_))))))
 refine K.d (.pointer none) ((hS.blk 0 rfl hg_3).cell rfl) ?_
 refine K.q [.bool false] (K.z (K.t (K.f (K.k (K.t (K.s (K.s (K.g (K.q [.pointer (some ⟨r_1, 1, none⟩)] ?_)))))))))
 refine K.d (.pointer (some ⟨p, 0, none⟩)) ((hS.blk 0 rfl hg_3).cell rfl) ?_
 refine K.q [.bool true] (K.z (K.t (K.h (K.s (K.g (K.q [.pointer (some ⟨r_1, 1, none⟩)] ?_))))))
 refine K.d (.pointer (some ⟨p, 0, none⟩)) ((hS.blk 0 rfl hg_3).cell rfl) ?_
 refine K.q [.pointer (some ⟨pm, 0, none⟩)] ?_
 refine K.l (K.OW.gcall hS [1, 2, 3] [0, 4] [.pointer (some ⟨p, 0, none⟩), .pointer (some ⟨pm, 0, none⟩)] (leaStep_ok _ _ _ _ _ _ _ c (by first | assumption | (unfold cfgOk; decide)) S M _ _ _ hgp hgl x (by assumption) (by assumption)) ?_)
 clear hS; rintro _ _ w ⟨g_4, l_5, rfl, rfl, h_6, x_7⟩ hS
 replace hS : K.Sat w0 [g_4, gl, l_5, g_2, fr] w := hS
 obtain ⟨hS_8, hM_9⟩ := (leaStep_good (by assumption) (by assumption) : (leaStep c n S M).1.good ∧ (leaStep c n S M).2.good)
 refine K.q [.bool ((leaStep c n S M).1.done)] (K.z (K.t (K.r (K.u ?_))))
 refine ⟨.inr rfl, rfl, (.bool ((leaStep c n S M).1.done)), K.res1 rfl rfl, [g_4, gl, l_5], ?_, hS.pick [0, 1, 2, 4]⟩
 exact ⟨_, _, rfl, rfl, h_6, x_7⟩
set_option maxHeartbeats 1000000 in
set_option maxRecDepth 100000 in
theorem mach_done_ad (w0 : World) (p b : Nat) (S : AdvS) (gp : K.Cs) (hgp : gp = advPt p b S) :
  K.GC Tryz.prog w0 14 #[.agg #[.pointer none, .pointer none, .pointer (some ⟨p, 0, none⟩)]] [gp] (fun v post => v = .bool S.done ∧ post = [gp]) := by
 refine K.GC.mk (n := 16) Tryz.func14 rfl rfl [.agg #[.pointer none, .pointer none, .pointer (some ⟨p, 0, none⟩)]] rfl rfl ?_
 intro fr w hS
 replace hS : K.Sat w0 [gp, fr] w := hS
 refine K.s (K.g ?_)
 refine K.l (K.OW.gnew 39 [.pointer none, .pointer none, .pointer (some ⟨p, 0, none⟩)] hS ?_)
 clear hS; intro w r_1 g_2 hg_3 hS
 refine K.q [.bool false] (K.z (K.t (K.s (K.g (K.q [.pointer (some ⟨r_1, 0, none⟩)] ?_)))))
 refine K.d (.pointer none) ((hS.blk 0 rfl hg_3).cell rfl) ?_
 refine K.l (K.OW.gcall hS [] [0, 1, 2] [.pointer none] (entDone_nil _ ) ?_)
 clear hS; rintro _ _ w ⟨rfl, rfl⟩ hS
 replace hS : K.Sat w0 [g_2, gp, fr] w := hS
 refine K.q [.bool true, .pointer (some ⟨r_1, 1, none⟩)] ?_
 refine K.d (.pointer none) ((hS.blk 0 rfl hg_3).cell rfl) ?_
 refine K.l (K.OW.gcall hS [] [0, 1, 2] [.pointer none] (leaDone_nil _ ) ?_)
 clear hS; rintro _ _ w ⟨rfl, rfl⟩ hS
 replace hS : K.Sat w0 [g_2, gp, fr] w := hS
 refine K.q [.bool true, .bool true, .pointer (some ⟨r_1, 2, none⟩)] ?_
 refine K.d (.pointer (some ⟨p, 0, none⟩)) ((hS.blk 0 rfl hg_3).cell rfl) ?_
 refine K.l (K.OW.gcall hS [1] [0, 2] [.pointer (some ⟨p, 0, none⟩)] (advDone_ok _ _ _ S _ hgp) ?_)
 clear hS; rintro _ _ w ⟨rfl, rfl⟩ hS
 replace hS : K.Sat w0 [gp, g_2, fr] w := hS
 cases hb_4 : S.done
 ·
  refine K.q [.bool false, .bool false] (K.z (K.t (K.r ?_)))
  refine ⟨.inr rfl, rfl, (.bool false), K.res1 rfl rfl, [gp], ?_, hS.pick [0, 2]⟩
  exact ⟨by first | rfl | exact congrArg Value.bool hb_4.symm, rfl⟩
 ·
  refine K.q [.bool true, .bool true] (K.z (K.t (K.r ?_)))
  refine ⟨.inr rfl, rfl, (.bool true), K.res1 rfl rfl, [gp], ?_, hS.pick [0, 2]⟩
  exact ⟨by first | rfl | exact congrArg Value.bool hb_4.symm, rfl⟩
set_option maxHeartbeats 1000000 in
set_option maxRecDepth 100000 in
theorem mach_step_ad (w0 : World) (p b pm q n t : Nat) (c : Cfg) (hc : cfgOk c) (S : AdvS) (M : MemM) (gp gl l : K.Cs) (hgp : gp = advPt p b S) (hgl : gl = layPt b c) (x : MemAt l pm q n t M) (hM : M.good) (hS : S.good) :
  K.GC Tryz.prog w0 9 #[.agg #[.pointer none, .pointer none, .pointer (some ⟨p, 0, none⟩)], .pointer (some ⟨pm, 0, none⟩)] [gp, gl, l] (fun v post => ∃ gp' l', v = .bool (advStep c n S M).1.done ∧ post = [gp', gl, l'] ∧ gp' = advPt p b (advStep c n S M).1 ∧ MemAt l' pm q n t (advStep c n S M).2) := by
 refine K.GC.mk (n := 23) Tryz.func9 rfl rfl [.agg #[.pointer none, .pointer none, .pointer (some ⟨p, 0, none⟩)], .pointer (some ⟨pm, 0, none⟩)] rfl rfl ?_
 intro fr w hS
 replace hS : K.Sat w0 [gp, gl, l, fr] w := hS
 refine K.s (K.g ?_)
 refine K.l (K.OW.gnew 39 [.pointer none, .pointer none, .pointer (some ⟨p, 0, none⟩)] hS ?_)
 clear hS; intro w r_1 g_2 hg_3 hS
 refine K.q [.bool false] (K.z (K.t (K.s (K.s (K.g (K.q [.pointer (some ⟨r_1, 0, none⟩)] ?_))))))
 refine K.d (.pointer none) ((hS.blk 0 rfl hg_3).cell rfl) ?_
 refine K.q [.bool false] (K.z (K.t (K.f (K.k (K.t (K.s (K.s (K.g (K.q [.pointer (some ⟨r_1, 1, none⟩)] ?_)))))))))
 refine K.d (.pointer none) ((hS.blk 0 rfl hg_3).cell rfl) ?_
 refine K.q [.bool false] (K.z (K.t (K.f (K.k (K.t (K.s (K.g (K.q [.pointer (some ⟨r_1, 2, none⟩)] ?_))))))))
 refine K.d (.pointer (some ⟨p, 0, none⟩)) ((hS.blk 0 rfl hg_3).cell rfl) ?_
 refine K.q [.pointer (some ⟨pm, 0, none⟩)] ?_
 refine K.l (K.OW.gcall hS [1, 2, 3] [0, 4] [.pointer (some ⟨p, 0, none⟩), .pointer (some ⟨pm, 0, none⟩)] (advStep_ok _ _ _ _ _ _ _ c (by first | assumption | (unfold cfgOk; decide)) S M _ _ _ hgp hgl x (by assumption) (by assumption)) ?_)
 clear hS; rintro _ _ w ⟨g_4, l_5, rfl, rfl, h_6, x_7⟩ hS
 replace hS : K.Sat w0 [g_4, gl, l_5, g_2, fr] w := hS
 obtain ⟨hS_8, hM_9⟩ := (advStep_good (by first | assumption | (unfold cfgOk; decide)) (by assumption) (by assumption) : (advStep c n S M).1.good ∧ (advStep c n S M).2.good)
 refine K.q [.bool ((advStep c n S M).1.done)] (K.z (K.t (K.r ?_)))
 refine ⟨.inr rfl, rfl, (.bool ((advStep c n S M).1.done)), K.res1 rfl rfl, [g_4, gl, l_5], ?_, hS.pick [0, 1, 2, 4]⟩
 exact ⟨_, _, rfl, rfl, h_6, x_7⟩
set_option maxHeartbeats 1000000 in
set_option maxRecDepth 100000 in
theorem mach_done_no (w0 : World)  :
  K.GC Tryz.prog w0 14 #[.agg #[.pointer none, .pointer none, .pointer none]] [] (fun v post => v = .bool true ∧ post = []) := by
 refine K.GC.mk (n := 16) Tryz.func14 rfl rfl [.agg #[.pointer none, .pointer none, .pointer none]] rfl rfl ?_
 intro fr w hS
 replace hS : K.Sat w0 [fr] w := hS
 refine K.s (K.g ?_)
 refine K.l (K.OW.gnew 39 [.pointer none, .pointer none, .pointer none] hS ?_)
 clear hS; intro w r_1 g_2 hg_3 hS
 refine K.q [.bool false] (K.z (K.t (K.s (K.g (K.q [.pointer (some ⟨r_1, 0, none⟩)] ?_)))))
 refine K.d (.pointer none) ((hS.blk 0 rfl hg_3).cell rfl) ?_
 refine K.l (K.OW.gcall hS [] [0, 1] [.pointer none] (entDone_nil _ ) ?_)
 clear hS; rintro _ _ w ⟨rfl, rfl⟩ hS
 replace hS : K.Sat w0 [g_2, fr] w := hS
 refine K.q [.bool true, .pointer (some ⟨r_1, 1, none⟩)] ?_
 refine K.d (.pointer none) ((hS.blk 0 rfl hg_3).cell rfl) ?_
 refine K.l (K.OW.gcall hS [] [0, 1] [.pointer none] (leaDone_nil _ ) ?_)
 clear hS; rintro _ _ w ⟨rfl, rfl⟩ hS
 replace hS : K.Sat w0 [g_2, fr] w := hS
 refine K.q [.bool true, .bool true, .pointer (some ⟨r_1, 2, none⟩)] ?_
 refine K.d (.pointer none) ((hS.blk 0 rfl hg_3).cell rfl) ?_
 refine K.l (K.OW.gcall hS [] [0, 1] [.pointer none] (advDone_nil _ ) ?_)
 clear hS; rintro _ _ w ⟨rfl, rfl⟩ hS
 replace hS : K.Sat w0 [g_2, fr] w := hS
 refine K.q [.bool true, .bool true] (K.z (K.t (K.r ?_)))
 refine ⟨.inr rfl, rfl, (.bool true), K.res1 rfl rfl, [], ?_, hS.pick [1]⟩
 exact ⟨rfl, rfl⟩
set_option maxHeartbeats 1000000 in
set_option maxRecDepth 100000 in
theorem made_en (w0 : World) (b : Nat) (c : Cfg) (tt : Int) (htt : isInt tt) :
  K.GC Tryz.prog w0 8 #[.pointer (some ⟨b, 0, none⟩), .agg #[.int .i64 c.th, .int .i64 c.sl, .int .i64 c.lo, .int .i64 c.bu], .int .i64 0, .int .i64 tt] [] (fun v post => ∃ u v1 w r g g2, v = .tuple #[.agg #[.pointer u, .pointer v1, .pointer w], .pointer (some ⟨r, 0, none⟩)] ∧ post = [g, g2] ∧ MachEl b (newE 0 tt) u v1 w g ∧ g2 = [K.pt r 51 [.int .i64 c.th, .int .i64 c.sl, .int .i64 c.lo, .int .i64 c.bu, .int .i64 tt, .int .i64 0, .int .i64 1, .int .u64 0, .bool false]]) := by
 refine K.GC.mk (n := 35) Tryz.func8 rfl rfl [.pointer (some ⟨b, 0, none⟩), .agg #[.int .i64 c.th, .int .i64 c.sl, .int .i64 c.lo, .int .i64 c.bu], .int .i64 0, .int .i64 tt] rfl rfl ?_
 intro fr w hS
 replace hS : K.Sat w0 [fr] w := hS
 refine K.s (K.g ?_)
 refine K.l (K.OW.gnew 23 [.int .i64 c.th, .int .i64 c.sl, .int .i64 c.lo, .int .i64 c.bu] hS ?_)
 clear hS; intro w r_1 g_2 hg_3 hS
 refine K.l (K.OW.gnew 39 [.pointer none, .pointer none, .pointer none] hS ?_)
 clear hS; intro w r_4 g_5 hg_6 hS
 refine K.q [.pointer none] (K.z (K.t (K.s (K.g ?_))))
 refine K.a (K.QR.ldN [.int .i64 c.th, .int .i64 c.sl, .int .i64 c.lo, .int .i64 c.bu] rfl rfl (by kernel_rfl) (by kernel_rfl) (K.cells (K.cl ((hS.blk 1 rfl hg_3).cell rfl) (K.cl ((hS.blk 1 rfl hg_3).cell rfl) (K.cl ((hS.blk 1 rfl hg_3).cell rfl) (K.cl ((hS.blk 1 rfl hg_3).cell rfl) K.cl0)))))) ?_
 refine K.q [.int .i64 tt, .int .i64 0] ?_
 refine K.a (K.QR.bd [(0, .agg #[.int .i64 c.th, .int .i64 c.sl, .int .i64 c.lo, .int .i64 c.bu]), (1, .int .i64 tt), (2, .int .i64 0), (3, .int .i64 1)] [.int .i64 c.th, .int .i64 c.sl, .int .i64 c.lo, .int .i64 c.bu, .int .i64 tt, .int .i64 0, .int .i64 1, .int .u64 0, .bool false] rfl rfl (by kernel_rfl)) ?_
 refine K.l (K.OW.gnew 51 [.int .i64 c.th, .int .i64 c.sl, .int .i64 c.lo, .int .i64 c.bu, .int .i64 tt, .int .i64 0, .int .i64 1, .int .u64 0, .bool false] hS ?_)
 clear hS; intro w r_7 g_8 hg_9 hS
 refine K.q [.pointer (some ⟨r_7, 0, none⟩)] (K.z (K.t (K.s (K.s (K.g (K.q [.int .i64 0, .bool true] (K.z (K.t (K.h (K.s (K.g (K.q [.pointer (some ⟨b, 0, none⟩), .int .i64 tt] ?_))))))))))))
 refine K.l (K.OW.gcall hS [] [0, 1, 2, 3] [.pointer (some ⟨b, 0, none⟩), .int .i64 tt] (newent_ok _ _ tt) ?_)
 clear hS; rintro _ _ w ⟨p_10, g_11, rfl, rfl, h_12⟩ hS
 replace hS : K.Sat w0 [g_11, g_8, g_5, g_2, fr] w := hS
 have hS_13 : EntS.good (⟨tt, false, 0, false⟩ : EntS) := ⟨(by omega : isInt tt), isW00⟩
 refine K.a (K.QR.bd [(0, .pointer (some ⟨p_10, 0, none⟩))] [.pointer (some ⟨p_10, 0, none⟩), .pointer none, .pointer none] rfl rfl (by kernel_rfl)) ?_
 refine K.q [.pointer (some ⟨r_7, 0, none⟩)] ?_
 refine K.l (K.OW.gst 2 [.pointer (some ⟨p_10, 0, none⟩), .pointer none, .pointer none] [.pointer (some ⟨p_10, 0, none⟩), .pointer none, .pointer none] hS hg_6 ?_)
 clear hS; intro w g_14 hg_15 hS
 replace hS : K.Sat w0 [g_11, g_8, g_14, g_2, fr] w := hS
 refine K.q [.pointer (some ⟨r_7, 0, none⟩)] (K.z (K.t (K.r (K.u ?_))))
 refine ⟨.inr rfl, rfl, (.tuple #[.agg #[.pointer (some ⟨p_10, 0, none⟩), .pointer none, .pointer none], .pointer (some ⟨r_7, 0, none⟩)]), K.resAt (rs := [.cell 8 39, .tmp 9]) [.agg #[.pointer (some ⟨p_10, 0, none⟩), .pointer none, .pointer none], .pointer (some ⟨r_7, 0, none⟩)] rfl ⟨⟨_, rfl, K.lvN [.pointer (some ⟨p_10, 0, none⟩), .pointer none, .pointer none] (by kernel_rfl) (by kernel_rfl) (K.cells (K.cl ((hS.blk 2 rfl hg_15).cell rfl) (K.cl ((hS.blk 2 rfl hg_15).cell rfl) (K.cl ((hS.blk 2 rfl hg_15).cell rfl) K.cl0))))⟩, rfl, trivial⟩, [g_11, g_8], ?_, hS.pick [0, 1, 4]⟩
 exact ⟨_, _, _, _, _, _, rfl, rfl, ⟨_, rfl, rfl, rfl, h_12⟩, hg_9⟩
set_option maxHeartbeats 1000000 in
set_option maxRecDepth 100000 in
theorem made_le (w0 : World) (b : Nat) (c : Cfg) (tt : Int) (htt : isInt tt) :
  K.GC Tryz.prog w0 8 #[.pointer (some ⟨b, 0, none⟩), .agg #[.int .i64 c.th, .int .i64 c.sl, .int .i64 c.lo, .int .i64 c.bu], .int .i64 1, .int .i64 tt] [] (fun v post => ∃ u v1 w r g g2, v = .tuple #[.agg #[.pointer u, .pointer v1, .pointer w], .pointer (some ⟨r, 0, none⟩)] ∧ post = [g, g2] ∧ MachEl b (newE 1 tt) u v1 w g ∧ g2 = [K.pt r 51 [.int .i64 c.th, .int .i64 c.sl, .int .i64 c.lo, .int .i64 c.bu, .int .i64 tt, .int .i64 1, .int .i64 1, .int .u64 0, .bool false]]) := by
 refine K.GC.mk (n := 35) Tryz.func8 rfl rfl [.pointer (some ⟨b, 0, none⟩), .agg #[.int .i64 c.th, .int .i64 c.sl, .int .i64 c.lo, .int .i64 c.bu], .int .i64 1, .int .i64 tt] rfl rfl ?_
 intro fr w hS
 replace hS : K.Sat w0 [fr] w := hS
 refine K.s (K.g ?_)
 refine K.l (K.OW.gnew 23 [.int .i64 c.th, .int .i64 c.sl, .int .i64 c.lo, .int .i64 c.bu] hS ?_)
 clear hS; intro w r_1 g_2 hg_3 hS
 refine K.l (K.OW.gnew 39 [.pointer none, .pointer none, .pointer none] hS ?_)
 clear hS; intro w r_4 g_5 hg_6 hS
 refine K.q [.pointer none] (K.z (K.t (K.s (K.g ?_))))
 refine K.a (K.QR.ldN [.int .i64 c.th, .int .i64 c.sl, .int .i64 c.lo, .int .i64 c.bu] rfl rfl (by kernel_rfl) (by kernel_rfl) (K.cells (K.cl ((hS.blk 1 rfl hg_3).cell rfl) (K.cl ((hS.blk 1 rfl hg_3).cell rfl) (K.cl ((hS.blk 1 rfl hg_3).cell rfl) (K.cl ((hS.blk 1 rfl hg_3).cell rfl) K.cl0)))))) ?_
 refine K.q [.int .i64 tt, .int .i64 1] ?_
 refine K.a (K.QR.bd [(0, .agg #[.int .i64 c.th, .int .i64 c.sl, .int .i64 c.lo, .int .i64 c.bu]), (1, .int .i64 tt), (2, .int .i64 1), (3, .int .i64 1)] [.int .i64 c.th, .int .i64 c.sl, .int .i64 c.lo, .int .i64 c.bu, .int .i64 tt, .int .i64 1, .int .i64 1, .int .u64 0, .bool false] rfl rfl (by kernel_rfl)) ?_
 refine K.l (K.OW.gnew 51 [.int .i64 c.th, .int .i64 c.sl, .int .i64 c.lo, .int .i64 c.bu, .int .i64 tt, .int .i64 1, .int .i64 1, .int .u64 0, .bool false] hS ?_)
 clear hS; intro w r_7 g_8 hg_9 hS
 refine K.q [.pointer (some ⟨r_7, 0, none⟩)] (K.z (K.t (K.s (K.s (K.g (K.q [.int .i64 1, .bool false] (K.z (K.t (K.f (K.k (K.t (K.s (K.s (K.g ?_))))))))))))))
 refine K.q [.int .i64 1, .bool true] (K.z (K.t (K.h (K.s (K.g (K.q [.pointer (some ⟨b, 0, none⟩), .int .i64 tt] ?_))))))
 refine K.l (K.OW.gcall hS [] [0, 1, 2, 3] [.pointer (some ⟨b, 0, none⟩), .int .i64 tt] (newlea_ok _ _ tt) ?_)
 clear hS; rintro _ _ w ⟨p_10, g_11, rfl, rfl, h_12⟩ hS
 replace hS : K.Sat w0 [g_11, g_8, g_5, g_2, fr] w := hS
 have hS_13 : LeaS.good (⟨tt, false⟩ : LeaS) := (by omega : isInt tt)
 refine K.a (K.QR.bd [(1, .pointer (some ⟨p_10, 0, none⟩))] [.pointer none, .pointer (some ⟨p_10, 0, none⟩), .pointer none] rfl rfl (by kernel_rfl)) ?_
 refine K.q [.pointer (some ⟨r_7, 0, none⟩)] ?_
 refine K.l (K.OW.gst 2 [.pointer none, .pointer (some ⟨p_10, 0, none⟩), .pointer none] [.pointer none, .pointer (some ⟨p_10, 0, none⟩), .pointer none] hS hg_6 ?_)
 clear hS; intro w g_14 hg_15 hS
 replace hS : K.Sat w0 [g_11, g_8, g_14, g_2, fr] w := hS
 refine K.q [.pointer (some ⟨r_7, 0, none⟩)] (K.z (K.t (K.r (K.u ?_))))
 refine ⟨.inr rfl, rfl, (.tuple #[.agg #[.pointer none, .pointer (some ⟨p_10, 0, none⟩), .pointer none], .pointer (some ⟨r_7, 0, none⟩)]), K.resAt (rs := [.cell 8 39, .tmp 9]) [.agg #[.pointer none, .pointer (some ⟨p_10, 0, none⟩), .pointer none], .pointer (some ⟨r_7, 0, none⟩)] rfl ⟨⟨_, rfl, K.lvN [.pointer none, .pointer (some ⟨p_10, 0, none⟩), .pointer none] (by kernel_rfl) (by kernel_rfl) (K.cells (K.cl ((hS.blk 2 rfl hg_15).cell rfl) (K.cl ((hS.blk 2 rfl hg_15).cell rfl) (K.cl ((hS.blk 2 rfl hg_15).cell rfl) K.cl0))))⟩, rfl, trivial⟩, [g_11, g_8], ?_, hS.pick [0, 1, 4]⟩
 exact ⟨_, _, _, _, _, _, rfl, rfl, ⟨_, rfl, rfl, rfl, h_12⟩, hg_9⟩
set_option maxHeartbeats 1000000 in
set_option maxRecDepth 100000 in
theorem made_ad (w0 : World) (b : Nat) (c : Cfg) (tt : Int) (htt : isInt tt) :
  K.GC Tryz.prog w0 8 #[.pointer (some ⟨b, 0, none⟩), .agg #[.int .i64 c.th, .int .i64 c.sl, .int .i64 c.lo, .int .i64 c.bu], .int .i64 2, .int .i64 tt] [] (fun v post => ∃ u v1 w r g g2, v = .tuple #[.agg #[.pointer u, .pointer v1, .pointer w], .pointer (some ⟨r, 0, none⟩)] ∧ post = [g, g2] ∧ MachEl b (newE 2 tt) u v1 w g ∧ g2 = [K.pt r 51 [.int .i64 c.th, .int .i64 c.sl, .int .i64 c.lo, .int .i64 c.bu, .int .i64 tt, .int .i64 2, .int .i64 1, .int .u64 0, .bool false]]) := by
 refine K.GC.mk (n := 35) Tryz.func8 rfl rfl [.pointer (some ⟨b, 0, none⟩), .agg #[.int .i64 c.th, .int .i64 c.sl, .int .i64 c.lo, .int .i64 c.bu], .int .i64 2, .int .i64 tt] rfl rfl ?_
 intro fr w hS
 replace hS : K.Sat w0 [fr] w := hS
 refine K.s (K.g ?_)
 refine K.l (K.OW.gnew 23 [.int .i64 c.th, .int .i64 c.sl, .int .i64 c.lo, .int .i64 c.bu] hS ?_)
 clear hS; intro w r_1 g_2 hg_3 hS
 refine K.l (K.OW.gnew 39 [.pointer none, .pointer none, .pointer none] hS ?_)
 clear hS; intro w r_4 g_5 hg_6 hS
 refine K.q [.pointer none] (K.z (K.t (K.s (K.g ?_))))
 refine K.a (K.QR.ldN [.int .i64 c.th, .int .i64 c.sl, .int .i64 c.lo, .int .i64 c.bu] rfl rfl (by kernel_rfl) (by kernel_rfl) (K.cells (K.cl ((hS.blk 1 rfl hg_3).cell rfl) (K.cl ((hS.blk 1 rfl hg_3).cell rfl) (K.cl ((hS.blk 1 rfl hg_3).cell rfl) (K.cl ((hS.blk 1 rfl hg_3).cell rfl) K.cl0)))))) ?_
 refine K.q [.int .i64 tt, .int .i64 2] ?_
 refine K.a (K.QR.bd [(0, .agg #[.int .i64 c.th, .int .i64 c.sl, .int .i64 c.lo, .int .i64 c.bu]), (1, .int .i64 tt), (2, .int .i64 2), (3, .int .i64 1)] [.int .i64 c.th, .int .i64 c.sl, .int .i64 c.lo, .int .i64 c.bu, .int .i64 tt, .int .i64 2, .int .i64 1, .int .u64 0, .bool false] rfl rfl (by kernel_rfl)) ?_
 refine K.l (K.OW.gnew 51 [.int .i64 c.th, .int .i64 c.sl, .int .i64 c.lo, .int .i64 c.bu, .int .i64 tt, .int .i64 2, .int .i64 1, .int .u64 0, .bool false] hS ?_)
 clear hS; intro w r_7 g_8 hg_9 hS
 refine K.q [.pointer (some ⟨r_7, 0, none⟩)] (K.z (K.t (K.s (K.s (K.g (K.q [.int .i64 2, .bool false] (K.z (K.t (K.f (K.k (K.t (K.s (K.s (K.g ?_))))))))))))))
 refine K.q [.int .i64 2, .bool false] (K.z (K.t (K.f (K.k (K.t (K.s (K.g (K.q [.pointer (some ⟨b, 0, none⟩), .int .i64 tt] ?_))))))))
 refine K.l (K.OW.gcall hS [] [0, 1, 2, 3] [.pointer (some ⟨b, 0, none⟩), .int .i64 tt] (newadv_ok _ _ tt) ?_)
 clear hS; rintro _ _ w ⟨p_10, g_11, rfl, rfl, h_12⟩ hS
 replace hS : K.Sat w0 [g_11, g_8, g_5, g_2, fr] w := hS
 have hS_13 : AdvS.good (⟨tt, false, 0, 0, 0, false⟩ : AdvS) := ⟨(by omega : isInt tt), isW00, ⟨Int.le_refl _, (by decide : (0 : Int) ≤ 64)⟩, .inr (.inl ⟨rfl, rfl⟩)⟩
 refine K.a (K.QR.bd [(2, .pointer (some ⟨p_10, 0, none⟩))] [.pointer none, .pointer none, .pointer (some ⟨p_10, 0, none⟩)] rfl rfl (by kernel_rfl)) ?_
 refine K.q [.pointer (some ⟨r_7, 0, none⟩)] ?_
 refine K.l (K.OW.gst 2 [.pointer none, .pointer none, .pointer (some ⟨p_10, 0, none⟩)] [.pointer none, .pointer none, .pointer (some ⟨p_10, 0, none⟩)] hS hg_6 ?_)
 clear hS; intro w g_14 hg_15 hS
 replace hS : K.Sat w0 [g_11, g_8, g_14, g_2, fr] w := hS
 refine K.q [.pointer (some ⟨r_7, 0, none⟩)] (K.z (K.t (K.r ?_)))
 refine ⟨.inr rfl, rfl, (.tuple #[.agg #[.pointer none, .pointer none, .pointer (some ⟨p_10, 0, none⟩)], .pointer (some ⟨r_7, 0, none⟩)]), K.resAt (rs := [.cell 8 39, .tmp 9]) [.agg #[.pointer none, .pointer none, .pointer (some ⟨p_10, 0, none⟩)], .pointer (some ⟨r_7, 0, none⟩)] rfl ⟨⟨_, rfl, K.lvN [.pointer none, .pointer none, .pointer (some ⟨p_10, 0, none⟩)] (by kernel_rfl) (by kernel_rfl) (K.cells (K.cl ((hS.blk 2 rfl hg_15).cell rfl) (K.cl ((hS.blk 2 rfl hg_15).cell rfl) (K.cl ((hS.blk 2 rfl hg_15).cell rfl) K.cl0))))⟩, rfl, trivial⟩, [g_11, g_8], ?_, hS.pick [0, 1, 4]⟩
 exact ⟨_, _, _, _, _, _, rfl, rfl, ⟨_, rfl, rfl, rfl, h_12⟩, hg_9⟩
theorem machDone_ok (w0 : World) (b : Nat) (x : MachE) (u v w : Option Addr) (g : K.Cs) (h : MachEl b x u v w g) : K.GC Tryz.prog w0 14 #[.agg #[.pointer u, .pointer v, .pointer w]] [g] (fun r post => r = .bool x.done ∧ post = [g]) := by
 cases x with
 | no =>
  obtain ⟨rfl, rfl, rfl, rfl⟩ := h
  intro fr w hS
  refine K.KC.mono (mach_done_no w0 fr w (hS.of (by simp))) ?_
  rintro v w' ⟨post, ⟨rfl, rfl⟩, hS⟩
  exact ⟨[[]], ⟨rfl, rfl⟩, hS.of (by simp)⟩
 | en S => obtain ⟨p, rfl, rfl, rfl, hg⟩ := h; exact mach_done_en w0 p b S g hg
 | le S => obtain ⟨p, rfl, rfl, rfl, hg⟩ := h; exact mach_done_le w0 p b S g hg
 | ad S => obtain ⟨p, rfl, rfl, rfl, hg⟩ := h; exact mach_done_ad w0 p b S g hg
theorem machStep2_ok (w0 : World) (b pm q n t : Nat) (c : Cfg) (hc : cfgOk c) (x : MachE) (M : MemM) (u v w : Option Addr) (g gl l : K.Cs) (h : MachEl b x u v w g) (hgl : gl = layPt b c) (hm : MemAt l pm q n t M) (hM : M.good) (hx : x.good) (hn : x ≠ .no) :
  K.GC Tryz.prog w0 9 #[.agg #[.pointer u, .pointer v, .pointer w], .pointer (some ⟨pm, 0, none⟩)] [g, gl, l] (fun r post => ∃ g' l', r = .bool (stepE c n x M).1.done ∧ post = [g', gl, l'] ∧ MachEl b (stepE c n x M).1 u v w g' ∧ MemAt l' pm q n t (stepE c n x M).2) := by
 cases x with
 | no => exact absurd rfl hn
 | en S =>
  obtain ⟨p, rfl, rfl, rfl, hg⟩ := h
  refine (mach_step_en w0 p b pm q n t c hc S M g gl l hg hgl hm hM hx).mono ?_
  rintro r post ⟨g', l', rfl, rfl, h1, h2⟩
  exact ⟨g', l', rfl, rfl, ⟨p, rfl, rfl, rfl, h1⟩, h2⟩
 | le S =>
  obtain ⟨p, rfl, rfl, rfl, hg⟩ := h
  refine (mach_step_le w0 p b pm q n t c hc S M g gl l hg hgl hm hM hx).mono ?_
  rintro r post ⟨g', l', rfl, rfl, h1, h2⟩
  exact ⟨g', l', rfl, rfl, ⟨p, rfl, rfl, rfl, h1⟩, h2⟩
 | ad S =>
  obtain ⟨p, rfl, rfl, rfl, hg⟩ := h
  refine (mach_step_ad w0 p b pm q n t c hc S M g gl l hg hgl hm hM hx).mono ?_
  rintro r post ⟨g', l', rfl, rfl, h1, h2⟩
  exact ⟨g', l', rfl, rfl, ⟨p, rfl, rfl, rfl, h1⟩, h2⟩
theorem stepE_no {c : Cfg} {n : Nat} {x : MachE} {M : MemM} (h : x ≠ .no) : (stepE c n x M).1 ≠ .no := by cases x <;> simp_all [stepE]
theorem newE_no (k t : Int) : newE k t ≠ .no := by unfold newE; split; simp; split <;> simp
end Go.Proofs.YtajkickofkeemaaGreat
