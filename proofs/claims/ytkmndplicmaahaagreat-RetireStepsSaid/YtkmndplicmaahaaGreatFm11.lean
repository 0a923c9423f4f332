/- Layer 11: a machine of any kind. -/
import Derived.Test.YtkmndplicmaahaaGreatFm11p
import Derived.Test.YtkmndplicmaahaaGreatKn
namespace Go.Proofs.YtkmndplicmaahaaGreat
open Go.RowKit
set_option linter.unusedVariables false
attribute [local irreducible] K.KW K.RW K.DW K.OW K.QR K.KC
def RecEl (p b : Nat) (S : RecS) (g : K.Cs) : Prop := (¬ S.pc = 4 ∧ ∃ a, g = recPt p b a S) ∨ (S.pc = 4 ∧ ∃ px, g = recPt p b (some ⟨px, 0, none⟩) S ++ pushPt px b S.push)
theorem recStep_n4 {c : Cfg} {n : Nat} {S : RecS} {M : MemM} (h : ¬ S.pc = 2) (h2 : ¬ S.pc = 4) (hg : S.good c) : ¬ (recStep c n S M).1.pc = 4 := by
 have hp := hg.2.2.2.2.2
 unfold recStep
 split
 ·omega
 split
 ·show ¬ (1 : Int) = 4; decide
 split
 ·unfold recLook
  split
  ·show ¬ (2 : Int) = 4; decide
  ·exact onPc_4
 ·omega
theorem recStep_ok (w0 : World) (p b pm q n t : Nat) (c : Cfg) (hc : cfgOk c) (S : RecS) (M : MemM) (g gl l : K.Cs) (h : RecEl p b S g) (hgl : gl = layPt b c) (x : MemAt l pm q n t M) (hM : M.good) (hS : S.good c) :
  K.GC Tryz.prog w0 16 #[.pointer (some ⟨p, 0, none⟩), .pointer (some ⟨pm, 0, none⟩)] [g, gl, l] (fun v post => ∃ g' l', v = .bool (recStep c n S M).1.done ∧ post = [g', gl, l'] ∧ RecEl p b (recStep c n S M).1 g' ∧ MemAt l' pm q n t (recStep c n S M).2) := by
 rcases h with ⟨h4, a, rfl⟩ | ⟨h4, px, rfl⟩
 ·by_cases h2 : S.pc = 2
  ·intro fr w hs
   refine K.KC.mono (recStepB_ok w0 p b pm q n t c hc a S M _ gl l rfl hgl x hM hS h2 fr w hs) ?_
   rintro v w' ⟨post, ⟨gp', gx, l', px, rfl, rfl, h1, h3, h5⟩, hs2⟩
   have e : (recStep c n S M).1.pc = 4 := by unfold recStep; rw [if_neg (by omega), if_neg (by omega), if_neg (by omega), if_pos h2]
   exact ⟨[gp' ++ gx, gl, l'], ⟨_, _, rfl, rfl, .inr ⟨e, px, by rw [h1, h3]⟩, h5⟩, hs2.of (by simp)⟩
  ·refine (recStepA_ok w0 p b pm q n t c hc a S M _ gl l rfl hgl x hM hS ⟨h2, h4⟩).mono ?_
   rintro v post ⟨gp', l', rfl, rfl, h1, h3⟩
   exact ⟨_, _, rfl, rfl, .inl ⟨recStep_n4 h2 h4 hS, a, h1⟩, h3⟩
 ·intro fr w hs
  refine K.KC.mono (recStepC_ok w0 p b pm q n t c hc _ S M _ gl l rfl hgl x hM hS px _ rfl rfl h4 fr w (hs.of (by simp))) ?_
  rintro v w' ⟨post, ⟨gp', gx, l', rfl, rfl, h1, h3, h5⟩, hs2⟩
  by_cases e : (recStep c n S M).1.pc = 4
  ·exact ⟨[gp' ++ gx, gl, l'], ⟨_, _, rfl, rfl, .inr ⟨e, px, by rw [h1, h3]⟩, h5⟩, hs2.of (by simp)⟩
  ·exact ⟨[gp', gl, l'], ⟨_, _, rfl, rfl, .inl ⟨e, _, h1⟩, h5⟩, (hs2.pick [0, 2, 3, 4]).of (by simp [K.pick, K.nth])⟩
theorem canStep_done {c : Cfg} {n : Nat} {S : CanS} {M : MemM} : (canStep c n S M).1.done = true := by
 unfold canStep
 split
 ·exact decide_eq_true (by assumption)
 ·rfl
def MachEl (b : Nat) : MachR → Option Addr → Option Addr → Option Addr → Option Addr → K.Cs → Prop
 | .res S, u, v, w, z, g => ∃ p, u = some ⟨p, 0, none⟩ ∧ v = none ∧ w = none ∧ z = none ∧ g = resPt p b S
 | .can S, u, v, w, z, g => ∃ p, u = none ∧ v = some ⟨p, 0, none⟩ ∧ w = none ∧ z = none ∧ g = canPt p b S
 | .sta S, u, v, w, z, g => ∃ p, u = none ∧ v = none ∧ w = some ⟨p, 0, none⟩ ∧ z = none ∧ g = staPt p b S
 | .rc S, u, v, w, z, g => ∃ p, u = none ∧ v = none ∧ w = none ∧ z = some ⟨p, 0, none⟩ ∧ RecEl p b S g
set_option maxHeartbeats 1000000 in
set_option maxRecDepth 100000 in
theorem mach_step_res (w0 : World) (p b pm q n t : Nat) (c : Cfg) (hc : cfgOk c) (S : ResS) (M : MemM) (gp gl l : K.Cs) (hgp : gp = resPt p b S) (hgl : gl = layPt b c) (x : MemAt l pm q n t M) (hM : M.good) (hS : S.good) :
  K.GC Tryz.prog w0 23 #[.agg #[.pointer (some ⟨p, 0, none⟩), .pointer none, .pointer none, .pointer none], .pointer (some ⟨pm, 0, none⟩)] [gp, gl, l] (fun v post => ∃ gp' l', v = .bool (resStep c n t S M).1.done ∧ post = [gp', gl, l'] ∧ gp' = resPt p b (resStep c n t S M).1 ∧ MemAt l' pm q n t (resStep c n t S M).2) := by
 refine K.GC.mk (n := 30) Tryz.func23 rfl rfl [.agg #[.pointer (some ⟨p, 0, none⟩), .pointer none, .pointer none, .pointer none], .pointer (some ⟨pm, 0, none⟩)] rfl rfl ?_
 intro fr w hS
 replace hS : K.Sat w0 [gp, gl, l, fr] w := hS
 refine K.s (K.g ?_)
 refine K.l (K.OW.gnew 58 [.pointer (some ⟨p, 0, none⟩), .pointer none, .pointer none, .pointer none] hS ?_)
 clear hS; intro w r_1 g_2 hg_3 hS
 refine K.q [.bool false] (K.z (K.t (K.s (K.s (K.g (K.q [.pointer (some ⟨r_1, 0, none⟩)] ?_))))))
 refine K.d (.pointer (some ⟨p, 0, none⟩)) ((hS.blk 0 rfl hg_3).cell rfl) ?_
 refine K.q [.bool true] (K.z (K.t (K.h (K.s (K.g (K.q [.pointer (some ⟨r_1, 0, none⟩)] ?_))))))
 refine K.d (.pointer (some ⟨p, 0, none⟩)) ((hS.blk 0 rfl hg_3).cell rfl) ?_
 refine K.q [.pointer (some ⟨pm, 0, none⟩)] ?_
 refine K.l (K.OW.gcall hS [1, 2, 3] [0, 4] [.pointer (some ⟨p, 0, none⟩), .pointer (some ⟨pm, 0, none⟩)] (reStep_ok _ _ _ _ _ _ _ c (by first | assumption | (unfold cfgOk; decide)) S M _ _ _ hgp hgl x (by assumption) (by assumption)) ?_)
 clear hS; rintro _ _ w ⟨g_4, l_5, rfl, rfl, h_6, x_7⟩ hS
 replace hS : K.Sat w0 [g_4, gl, l_5, g_2, fr] w := hS
 obtain ⟨hS_8, hM_9⟩ := (resStep_good (by first | assumption | (unfold cfgOk; decide)) (by assumption) (by assumption) : (resStep c n t S M).1.good ∧ (resStep c n t S M).2.good)
 refine K.q [.bool ((resStep c n t S M).1.done)] (K.z (K.t (K.r (K.u ?_))))
 refine ⟨.inr rfl, rfl, (.bool ((resStep c n t S M).1.done)), K.res1 rfl rfl, [g_4, gl, l_5], ?_, hS.pick [0, 1, 2, 4]⟩
 exact ⟨_, _, rfl, rfl, h_6, x_7⟩
set_option maxHeartbeats 1000000 in
set_option maxRecDepth 100000 in
theorem mach_step_can (w0 : World) (p b pm q n t : Nat) (c : Cfg) (hc : cfgOk c) (S : CanS) (M : MemM) (gp gl l : K.Cs) (hgp : gp = canPt p b S) (hgl : gl = layPt b c) (x : MemAt l pm q n t M) (hM : M.good) (hS : S.good) :
  K.GC Tryz.prog w0 23 #[.agg #[.pointer none, .pointer (some ⟨p, 0, none⟩), .pointer none, .pointer none], .pointer (some ⟨pm, 0, none⟩)] [gp, gl, l] (fun v post => ∃ gp' l', v = .bool (canStep c n S M).1.done ∧ post = [gp', gl, l'] ∧ gp' = canPt p b (canStep c n S M).1 ∧ MemAt l' pm q n t (canStep c n S M).2) := by
 refine K.GC.mk (n := 30) Tryz.func23 rfl rfl [.agg #[.pointer none, .pointer (some ⟨p, 0, none⟩), .pointer none, .pointer none], .pointer (some ⟨pm, 0, none⟩)] rfl rfl ?_
 intro fr w hS
 replace hS : K.Sat w0 [gp, gl, l, fr] w := hS
 refine K.s (K.g ?_)
 refine K.l (K.OW.gnew 58 [.pointer none, .pointer (some ⟨p, 0, none⟩), .pointer none, .pointer none] hS ?_)
 clear hS; intro w r_1 g_2 hg_3 hS
 refine K.q [.bool false] (K.z (K.t (K.s (K.s (K.g (K.q [.pointer (some ⟨r_1, 0, none⟩)] ?_))))))
 refine K.d (.pointer none) ((hS.blk 0 rfl hg_3).cell rfl) ?_
 refine K.q [.bool false] (K.z (K.t (K.f (K.k (K.t (K.s (K.s (K.g (K.q [.pointer (some ⟨r_1, 1, none⟩)] ?_)))))))))
 refine K.d (.pointer (some ⟨p, 0, none⟩)) ((hS.blk 0 rfl hg_3).cell rfl) ?_
 refine K.q [.bool true] (K.z (K.t (K.h (K.s (K.g (K.q [.pointer (some ⟨r_1, 1, none⟩)] ?_))))))
 refine K.d (.pointer (some ⟨p, 0, none⟩)) ((hS.blk 0 rfl hg_3).cell rfl) ?_
 refine K.q [.pointer (some ⟨pm, 0, none⟩)] ?_
 refine K.l (K.OW.gcall hS [1, 2, 3] [0, 4] [.pointer (some ⟨p, 0, none⟩), .pointer (some ⟨pm, 0, none⟩)] (canStep_ok _ _ _ _ _ _ _ c (by first | assumption | (unfold cfgOk; decide)) S M _ _ _ hgp hgl x (by assumption) (by assumption)) ?_)
 clear hS; rintro _ _ w ⟨g_4, l_5, rfl, rfl, h_6, x_7⟩ hS
 replace hS : K.Sat w0 [g_4, gl, l_5, g_2, fr] w := hS
 obtain ⟨hS_8, hM_9⟩ := (canStep_good (by assumption) (by assumption) : (canStep c n S M).1.good ∧ (canStep c n S M).2.good)
 refine K.q [.bool true] (K.z (K.t (K.r (K.u ?_))))
 refine ⟨.inr rfl, rfl, (.bool true), K.res1 rfl rfl, [g_4, gl, l_5], ?_, hS.pick [0, 1, 2, 4]⟩
 exact ⟨_, _, congrArg Value.bool canStep_done.symm, rfl, h_6, x_7⟩
set_option maxHeartbeats 1000000 in
set_option maxRecDepth 100000 in
theorem mach_step_sta (w0 : World) (p b pm q n t : Nat) (c : Cfg) (hc : cfgOk c) (S : StaS) (M : MemM) (gp gl l : K.Cs) (hgp : gp = staPt p b S) (hgl : gl = layPt b c) (x : MemAt l pm q n t M) (hM : M.good) (hS : S.good) :
  K.GC Tryz.prog w0 23 #[.agg #[.pointer none, .pointer none, .pointer (some ⟨p, 0, none⟩), .pointer none], .pointer (some ⟨pm, 0, none⟩)] [gp, gl, l] (fun v post => ∃ gp' l', v = .bool (staStep c n t S M).1.done ∧ post = [gp', gl, l'] ∧ gp' = staPt p b (staStep c n t S M).1 ∧ MemAt l' pm q n t (staStep c n t S M).2) := by
 refine K.GC.mk (n := 30) Tryz.func23 rfl rfl [.agg #[.pointer none, .pointer none, .pointer (some ⟨p, 0, none⟩), .pointer none], .pointer (some ⟨pm, 0, none⟩)] rfl rfl ?_
 intro fr w hS
 replace hS : K.Sat w0 [gp, gl, l, fr] w := hS
 refine K.s (K.g ?_)
 refine K.l (K.OW.gnew 58 [.pointer none, .pointer none, .pointer (some ⟨p, 0, none⟩), .pointer none] hS ?_)
 clear hS; intro w r_1 g_2 hg_3 hS
 refine K.q [.bool false] (K.z (K.t (K.s (K.s (K.g (K.q [.pointer (some ⟨r_1, 0, none⟩)] ?_))))))
 refine K.d (.pointer none) ((hS.blk 0 rfl hg_3).cell rfl) ?_
 refine K.q [.bool false] (K.z (K.t (K.f (K.k (K.t (K.s (K.s (K.g (K.q [.pointer (some ⟨r_1, 1, none⟩)] ?_)))))))))
 refine K.d (.pointer none) ((hS.blk 0 rfl hg_3).cell rfl) ?_
 refine K.q [.bool false] (K.z (K.t (K.f (K.k (K.t (K.s (K.s (K.g (K.q [.pointer (some ⟨r_1, 2, none⟩)] ?_)))))))))
 refine K.d (.pointer (some ⟨p, 0, none⟩)) ((hS.blk 0 rfl hg_3).cell rfl) ?_
 refine K.q [.bool true] (K.z (K.t (K.h (K.s (K.g (K.q [.pointer (some ⟨r_1, 2, none⟩)] ?_))))))
 refine K.d (.pointer (some ⟨p, 0, none⟩)) ((hS.blk 0 rfl hg_3).cell rfl) ?_
 refine K.q [.pointer (some ⟨pm, 0, none⟩)] ?_
 refine K.l (K.OW.gcall hS [1, 2, 3] [0, 4] [.pointer (some ⟨p, 0, none⟩), .pointer (some ⟨pm, 0, none⟩)] (staStep_ok _ _ _ _ _ _ _ c (by first | assumption | (unfold cfgOk; decide)) S M _ _ _ hgp hgl x (by assumption) (by assumption)) ?_)
 clear hS; rintro _ _ w ⟨g_4, l_5, rfl, rfl, h_6, x_7⟩ hS
 replace hS : K.Sat w0 [g_4, gl, l_5, g_2, fr] w := hS
 obtain ⟨hS_8, hM_9⟩ := (staStep_good (by assumption) (by assumption) : (staStep c n t S M).1.good ∧ (staStep c n t S M).2.good)
 refine K.q [.bool ((staStep c n t S M).1.done)] (K.z (K.t (K.r (K.u ?_))))
 refine ⟨.inr rfl, rfl, (.bool ((staStep c n t S M).1.done)), K.res1 rfl rfl, [g_4, gl, l_5], ?_, hS.pick [0, 1, 2, 4]⟩
 exact ⟨_, _, rfl, rfl, h_6, x_7⟩
set_option maxHeartbeats 1000000 in
set_option maxRecDepth 100000 in
theorem mach_step_rc (w0 : World) (p b pm q n t : Nat) (c : Cfg) (hc : cfgOk c) (S : RecS) (M : MemM) (g gl l : K.Cs) (h : RecEl p b S g) (hgl : gl = layPt b c) (x : MemAt l pm q n t M) (hM : M.good) (hS : S.good c) :
  K.GC Tryz.prog w0 23 #[.agg #[.pointer none, .pointer none, .pointer none, .pointer (some ⟨p, 0, none⟩)], .pointer (some ⟨pm, 0, none⟩)] [g, gl, l] (fun v post => ∃ g' l', v = .bool (recStep c n S M).1.done ∧ post = [g', gl, l'] ∧ RecEl p b (recStep c n S M).1 g' ∧ MemAt l' pm q n t (recStep c n S M).2) := by
 refine K.GC.mk (n := 30) Tryz.func23 rfl rfl [.agg #[.pointer none, .pointer none, .pointer none, .pointer (some ⟨p, 0, none⟩)], .pointer (some ⟨pm, 0, none⟩)] rfl rfl ?_
 intro fr w hS
 replace hS : K.Sat w0 [g, gl, l, fr] w := hS
 refine K.s (K.g ?_)
 refine K.l (K.OW.gnew 58 [.pointer none, .pointer none, .pointer none, .pointer (some ⟨p, 0, none⟩)] hS ?_)
 clear hS; intro w r_1 g_2 hg_3 hS
 refine K.q [.bool false] (K.z (K.t (K.s (K.s (K.g (K.q [.pointer (some ⟨r_1, 0, none⟩)] ?_))))))
 refine K.d (.pointer none) ((hS.blk 0 rfl hg_3).cell rfl) ?_
 refine K.q [.bool false] (K.z (K.t (K.f (K.k (K.t (K.s (K.s (K.g (K.q [.pointer (some ⟨r_1, 1, none⟩)] ?_)))))))))
 refine K.d (.pointer none) ((hS.blk 0 rfl hg_3).cell rfl) ?_
 refine K.q [.bool false] (K.z (K.t (K.f (K.k (K.t (K.s (K.s (K.g (K.q [.pointer (some ⟨r_1, 2, none⟩)] ?_)))))))))
 refine K.d (.pointer none) ((hS.blk 0 rfl hg_3).cell rfl) ?_
 refine K.q [.bool false] (K.z (K.t (K.f (K.k (K.t (K.s (K.g (K.q [.pointer (some ⟨r_1, 3, none⟩)] ?_))))))))
 refine K.d (.pointer (some ⟨p, 0, none⟩)) ((hS.blk 0 rfl hg_3).cell rfl) ?_
 refine K.q [.pointer (some ⟨pm, 0, none⟩)] ?_
 refine K.l (K.OW.gcall hS [1, 2, 3] [0, 4] [.pointer (some ⟨p, 0, none⟩), .pointer (some ⟨pm, 0, none⟩)] (recStep_ok _ _ _ _ _ _ _ c (by first | assumption | (unfold cfgOk; decide)) S M _ _ _ h hgl x (by assumption) (by assumption)) ?_)
 clear hS; rintro _ _ w ⟨g_4, l_5, rfl, rfl, h_6, x_7⟩ hS
 replace hS : K.Sat w0 [g_4, gl, l_5, g_2, fr] w := hS
 obtain ⟨hS_8, hM_9⟩ := (recStep_good (by first | assumption | (unfold cfgOk; decide)) (by assumption) (by assumption) : (recStep c n S M).1.good c ∧ (recStep c n S M).2.good)
 refine K.q [.bool ((recStep c n S M).1.done)] (K.z (K.t (K.r ?_)))
 refine ⟨.inr rfl, rfl, (.bool ((recStep c n S M).1.done)), K.res1 rfl rfl, [g_4, gl, l_5], ?_, hS.pick [0, 1, 2, 4]⟩
 exact ⟨_, _, rfl, rfl, h_6, x_7⟩
theorem machStep_ok (w0 : World) (b pm q n t : Nat) (c : Cfg) (hc : cfgOk c) (x : MachR) (M : MemM) (u v w z : Option Addr) (g gl l : K.Cs) (h : MachEl b x u v w z g) (hgl : gl = layPt b c) (hm : MemAt l pm q n t M) (hM : M.good) (hx : x.good c) :
  K.GC Tryz.prog w0 23 #[.agg #[.pointer u, .pointer v, .pointer w, .pointer z], .pointer (some ⟨pm, 0, none⟩)] [g, gl, l] (fun r post => ∃ g' l', r = .bool (stepR c n t x M).1.done ∧ post = [g', gl, l'] ∧ MachEl b (stepR c n t x M).1 u v w z g' ∧ MemAt l' pm q n t (stepR c n t x M).2) := by
 cases x with
 | res S =>
  obtain ⟨p, rfl, rfl, rfl, rfl, hg⟩ := h
  refine (mach_step_res w0 p b pm q n t c hc S M g gl l hg hgl hm hM hx.1).mono ?_
  rintro r post ⟨g', l', rfl, rfl, h1, h2⟩
  exact ⟨g', l', rfl, rfl, ⟨p, rfl, rfl, rfl, rfl, h1⟩, h2⟩
 | can S =>
  obtain ⟨p, rfl, rfl, rfl, rfl, hg⟩ := h
  refine (mach_step_can w0 p b pm q n t c hc S M g gl l hg hgl hm hM hx.1).mono ?_
  rintro r post ⟨g', l', rfl, rfl, h1, h2⟩
  exact ⟨g', l', rfl, rfl, ⟨p, rfl, rfl, rfl, rfl, h1⟩, h2⟩
 | sta S =>
  obtain ⟨p, rfl, rfl, rfl, rfl, hg⟩ := h
  refine (mach_step_sta w0 p b pm q n t c hc S M g gl l hg hgl hm hM hx).mono ?_
  rintro r post ⟨g', l', rfl, rfl, h1, h2⟩
  exact ⟨g', l', rfl, rfl, ⟨p, rfl, rfl, rfl, rfl, h1⟩, h2⟩
 | rc S =>
  obtain ⟨p, rfl, rfl, rfl, rfl, hg⟩ := h
  refine (mach_step_rc w0 p b pm q n t c hc S M g gl l hg hgl hm hM hx).mono ?_
  rintro r post ⟨g', l', rfl, rfl, h1, h2⟩
  exact ⟨g', l', rfl, rfl, ⟨p, rfl, rfl, rfl, rfl, h1⟩, h2⟩
theorem lineR_0 {l pc : Int} (h : l = lineR pc) (hp : 0 ≤ pc) : (l = 0 ∧ pc = 5) ∨ (¬ l = 0 ∧ ¬ pc = 5) := by
 unfold lineR at h
 split at h
 ·exact .inl ⟨h, by assumption⟩
 ·exact .inr ⟨by omega, by assumption⟩
theorem lineC_0 {l pc : Int} (h : l = lineC pc) (hp : 0 ≤ pc) : (l = 0 ∧ pc = 5) ∨ (¬ l = 0 ∧ ¬ pc = 5) := by
 unfold lineC at h
 split at h
 ·exact .inl ⟨h, by assumption⟩
 ·split at h
  ·exact .inr ⟨by omega, by assumption⟩
  ·exact .inr ⟨by omega, by assumption⟩
theorem rec_pc0 {c : Cfg} {S : RecS} (h : S.good c) : 0 ≤ S.pc := by
 rcases h.2.2.2.2.2 with h | h | h | h | h <;> omega
theorem rel_line {c : Cfg} {x : MachR} {D : DM} (hx : x.good c) (hr : RelD c x D) : (x.done = true → D.line = 0) ∧ (x.done = false → ¬ D.line = 0) := by
 cases x with
 | res S => have h := lineR_0 hr.2.2.1 hx.1.2.1.1; exact ⟨fun e => by have := of_decide_eq_true e; omega, fun e => by have := of_decide_eq_false e; omega⟩
 | can S => have h : D.line = (if S.pc = 5 then 0 else 1) := hr.2.2.1; exact ⟨fun e => by have := of_decide_eq_true e; rw [if_pos this] at h; exact h, fun e => by have := of_decide_eq_false e; rw [if_neg this] at h; omega⟩
 | sta S => have h := lineR_0 hr.2.2.1 hx.2.1.1; exact ⟨fun e => by have := of_decide_eq_true e; omega, fun e => by have := of_decide_eq_false e; omega⟩
 | rc S => have h := lineC_0 hr.2.2.1 (rec_pc0 hx); exact ⟨fun e => by have := of_decide_eq_true e; omega, fun e => by have := of_decide_eq_false e; omega⟩
set_option maxHeartbeats 1000000 in
set_option maxRecDepth 100000 in
theorem rePlace_nil (w0 : World)  :
  K.GC Tryz.prog w0 11 #[.pointer none] [] (fun v post => v = .int .i64 (-1) ∧ post = []) := by
 refine K.GC.mk (n := 31) Tryz.func11 rfl rfl [.pointer none] rfl rfl ?_
 intro fr w hS
 replace hS : K.Sat w0 [fr] w := hS
 refine K.s (K.g (K.q [.int .i64 0] (K.z (K.t (K.s (K.s ?_))))))
 refine K.KW.gdrawn [] hS (by kernel_rfl) ?_
 clear hS; intro w hS
 refine K.b 0 rfl (.pointer none) (hS.pick []) ?_
 refine K.b 1 rfl (.bool true) (hS.pick []) ?_
 refine K.b 2 rfl (.bool true) (hS.pick []) ?_
 refine K.w_ 3 rfl (hS.pick []) ?_
 refine K.w_ 4 rfl (hS.pick []) ?_
 refine K.w_ 5 rfl (hS.pick []) ?_
 refine K.w_ 6 rfl (hS.pick []) ?_
 refine K.w_ 7 rfl (hS.pick []) ?_
 refine K.w_ 8 rfl (hS.pick []) ?_
 refine K.b 9 rfl (.bool true) (hS.pick []) ?_
 refine K.b 10 rfl (.bool true) (hS.pick []) ?_
 refine K.w_ 11 rfl (hS.pick []) ?_
 refine K.w_ 12 rfl (hS.pick []) ?_
 refine K.w_ 13 rfl (hS.pick []) ?_
 refine K.w_ 14 rfl (hS.pick []) ?_
 refine K.w_ 15 rfl (hS.pick []) ?_
 refine K.w_ 16 rfl (hS.pick []) ?_
 refine K.w_ 17 rfl (hS.pick []) ?_
 refine K.w_ 18 rfl (hS.pick []) ?_
 refine K.w_ 19 rfl (hS.pick []) ?_
 refine K.w_ 20 rfl (hS.pick []) ?_
 refine K.w_ 21 rfl (hS.pick []) ?_
 refine K.w_ 22 rfl (hS.pick []) ?_
 refine K.b 23 rfl (.bool true) (hS.pick []) ?_
 refine K.DW.done (by kernel_rfl) ?_
 refine K.t (K.h (K.s (K.g (K.q [.int .i64 (-1)] (K.z (K.t (K.r (K.u ?_))))))))
 refine ⟨.inr rfl, rfl, (.int .i64 (-1)), K.res1 rfl rfl, [], ?_, hS.pick [0]⟩
 exact ⟨rfl, rfl⟩
set_option maxHeartbeats 1000000 in
set_option maxRecDepth 100000 in
theorem mach_same_res (w0 : World) (p b r : Nat) (c : Cfg) (hc : cfgOk c) (S : ResS) (D : DM) (gp gl gd : K.Cs) (hgp : gp = resPt p b S) (hgl : gl = layPt b c) (hgd : gd = dmPt r c D) (hS : S.good) (hr : relRes c S D) :
  K.GC Tryz.prog w0 28 #[.agg #[.pointer (some ⟨p, 0, none⟩), .pointer none, .pointer none, .pointer none], .pointer (some ⟨r, 0, none⟩)] [gp, gl, gd] (fun v post => v = .bool true ∧ post = [gp, gl, gd]) := by
 obtain ⟨ht, hk, hl, hn, hs, hp, hh, hq⟩ := hr
 have hl0 := lineR_0 hl hS.2.1.1
 refine K.GC.mk (n := 75) Tryz.func28 rfl rfl [.agg #[.pointer (some ⟨p, 0, none⟩), .pointer none, .pointer none, .pointer none], .pointer (some ⟨r, 0, none⟩)] rfl rfl ?_
 intro fr w hS
 replace hS : K.Sat w0 [gp, gl, gd, fr] w := hS
 refine K.s (K.g ?_)
 refine K.l (K.OW.gnew 58 [.pointer (some ⟨p, 0, none⟩), .pointer none, .pointer none, .pointer none] hS ?_)
 clear hS; intro w r_1 g_2 hg_3 hS
 refine K.q [.bool false] (K.z (K.t (K.s (K.g (K.q [.pointer (some ⟨r_1, 0, none⟩)] ?_)))))
 refine K.d (.pointer (some ⟨p, 0, none⟩)) ((hS.blk 0 rfl hg_3).cell rfl) ?_
 refine K.l (K.OW.gcall hS [1] [0, 2, 3, 4] [.pointer (some ⟨p, 0, none⟩)] (reDone_ok _ _ _ S _ hgp) ?_)
 clear hS; rintro _ _ w ⟨rfl, (⟨rfl, h_4⟩ | ⟨rfl, h_5⟩)⟩ hS
 ·
  replace hS : K.Sat w0 [gp, g_2, gl, gd, fr] w := hS
  refine K.q [.bool true, .pointer (some ⟨r_1, 1, none⟩)] ?_
  refine K.d (.pointer none) ((hS.blk 1 rfl hg_3).cell rfl) ?_
  refine K.l (K.OW.gcall hS [] [0, 1, 2, 3, 4] [.pointer none] (canDone_nil _ ) ?_)
  clear hS; rintro _ _ w ⟨rfl, rfl⟩ hS
  replace hS : K.Sat w0 [gp, g_2, gl, gd, fr] w := hS
  refine K.q [.bool true, .bool true, .pointer (some ⟨r_1, 2, none⟩)] ?_
  refine K.d (.pointer none) ((hS.blk 1 rfl hg_3).cell rfl) ?_
  refine K.l (K.OW.gcall hS [] [0, 1, 2, 3, 4] [.pointer none] (staDone_nil _ ) ?_)
  clear hS; rintro _ _ w ⟨rfl, rfl⟩ hS
  replace hS : K.Sat w0 [gp, g_2, gl, gd, fr] w := hS
  refine K.q [.bool true, .bool true, .pointer (some ⟨r_1, 3, none⟩)] ?_
  refine K.d (.pointer none) ((hS.blk 1 rfl hg_3).cell rfl) ?_
  refine K.l (K.OW.gcall hS [] [0, 1, 2, 3, 4] [.pointer none] (recDone_nil _ ) ?_)
  clear hS; rintro _ _ w ⟨rfl, rfl⟩ hS
  replace hS : K.Sat w0 [gp, g_2, gl, gd, fr] w := hS
  refine K.q [.bool true, .bool true] (K.z (K.t (K.s (K.g (K.q [.int .i64 (-1)] (K.z (K.t (K.s (K.s (K.g (K.q [.pointer (some ⟨r, 0, none⟩), .pointer (some ⟨r, 0, none⟩), .pointer (some ⟨r, 5, none⟩)] ?_)))))))))))
  refine K.d (.int .i64 D.kind) ((hS.blk 3 rfl hgd).cell rfl) ?_
  refine K.ye (D.kind : Int) (0 : Int) (by omega) ?_
  refine K.q [.bool true, .pointer (some ⟨r, 0, none⟩), .pointer (some ⟨r, 0, none⟩), .pointer (some ⟨r, 6, none⟩)] ?_
  refine K.d (.int .i64 D.line) ((hS.blk 3 rfl hgd).cell rfl) ?_
  refine K.ye (D.line : Int) (0 : Int) (by omega) ?_
  refine K.q [.bool true] (K.z (K.t (K.h (K.g (K.q [.pointer (some ⟨r, 0, none⟩), .pointer (some ⟨r, 0, none⟩), .pointer (some ⟨r, 9, none⟩)] ?_)))))
  refine K.d (.int .i64 D.place) ((hS.blk 3 rfl hgd).cell rfl) ?_
  refine K.q [.int .i64 D.place] (K.z (K.t (K.s ?_)))
  refine K.KW.gdrawn [1, 3] hS (by kernel_rfl) ?_
  clear hS; intro w hS
  refine K.p 0 rfl (.bool true) (hS.pick [1, 3]) ?_
  refine K.b 1 rfl (.pointer (some ⟨r, 0, none⟩)) (hS.pick [1, 3]) ?_
  refine K.b 2 rfl (.pointer (some ⟨r, 0, none⟩)) (hS.pick [1, 3]) ?_
  refine K.b 3 rfl (.pointer (some ⟨r, 6, none⟩)) (hS.pick [1, 3]) ?_
  refine K.c 4 rfl (K.QR.ld1 (v := .int .i64 D.line) rfl rfl (by kernel_rfl) ((hS.blk 3 rfl hgd).cell rfl)) (hS.pick [1, 3]) ?_
  refine K.c 5 rfl (K.QR.nice (v := .bool ((D.line : Int) == (0 : Int))) (by kernel_rfl) (congrArg Value.bool (beq_iff_eq.2 (by omega)))) (hS.pick [1, 3]) ?_
  refine K.b 6 rfl (.bool true) (hS.pick [1, 3]) ?_
  refine K.b 7 rfl (.bool true) (hS.pick [1, 3]) ?_
  refine K.p 8 rfl (.pointer (some ⟨r_1, 0, none⟩)) (hS.pick [1, 3]) ?_
  refine K.o_ 9 rfl (.pointer (some ⟨p, 0, none⟩)) (fun w hS => ((hS.blk 0 rfl hg_3).cell rfl)) (hS.pick [1, 3]) ?_
  refine K.p 11 rfl (.int .i64 D.place) (hS.pick [1, 3]) ?_
  refine K.DW.l 10 rfl (by kernel_rfl) (by kernel_rfl) (K.OW.gcall hS [0, 2] [1, 3, 4] [.pointer (some ⟨p, 0, none⟩)] (rePlace_ok _ _ _ c (by first | assumption | (unfold cfgOk; decide)) S _ _ hgp hgl) ?_)
  clear hS; rintro _ _ w ⟨rfl, rfl⟩ hS
  replace hS : K.Sat w0 [gp, gl, g_2, gd, fr] w := hS
  refine ⟨.inl (hS.pick [2, 3]), ?_⟩
  refine K.c 12 rfl (K.QR.nice (v := .bool (((rePlace c S) : Int) == (D.place : Int))) (by kernel_rfl) (congrArg Value.bool (beq_iff_eq.2 (hp.symm)))) (hS.pick [2, 3]) ?_
  refine K.b 13 rfl (.bool true) (hS.pick [2, 3]) ?_
  refine K.b 14 rfl (.bool true) (hS.pick [2, 3]) ?_
  refine K.p 15 rfl (.pointer (some ⟨r_1, 3, none⟩)) (hS.pick [2, 3]) ?_
  refine K.o_ 16 rfl (.pointer none) (fun w hS => ((hS.blk 0 rfl hg_3).cell rfl)) (hS.pick [2, 3]) ?_
  refine K.p 18 rfl (.pointer (some ⟨r, 0, none⟩)) (hS.pick [2, 3]) ?_
  refine K.p 19 rfl (.pointer (some ⟨r, 0, none⟩)) (hS.pick [2, 3]) ?_
  refine K.p 20 rfl (.pointer (some ⟨r, 11, none⟩)) (hS.pick [2, 3]) ?_
  refine K.o_ 21 rfl (.int .i64 D.holds) (fun w hS => ((hS.blk 1 rfl hgd).cell rfl)) (hS.pick [2, 3]) ?_
  refine K.DW.l 17 rfl (by kernel_rfl) (by kernel_rfl) (K.OW.gcall hS [] [0, 1, 2, 3, 4] [.pointer none] (recHolds_nil _ ) ?_)
  clear hS; rintro _ _ w ⟨rfl, rfl⟩ hS
  replace hS : K.Sat w0 [gp, gl, g_2, gd, fr] w := hS
  refine ⟨.inl (hS.pick [2, 3]), ?_⟩
  refine K.c 22 rfl (K.QR.nice (v := .bool (((-1) : Int) == (D.holds : Int))) (by kernel_rfl) (congrArg Value.bool (beq_iff_eq.2 (hh.symm)))) (hS.pick [2, 3]) ?_
  refine K.b 23 rfl (.bool true) (hS.pick [2, 3]) ?_
  refine K.b 24 rfl (.bool true) (hS.pick [2, 3]) ?_
  refine K.p 25 rfl (.pointer (some ⟨r_1, 3, none⟩)) (hS.pick [2, 3]) ?_
  refine K.o_ 26 rfl (.pointer none) (fun w hS => ((hS.blk 0 rfl hg_3).cell rfl)) (hS.pick [2, 3]) ?_
  refine K.p 28 rfl (.pointer (some ⟨r, 0, none⟩)) (hS.pick [2, 3]) ?_
  refine K.p 29 rfl (.pointer (some ⟨r, 0, none⟩)) (hS.pick [2, 3]) ?_
  refine K.p 30 rfl (.pointer (some ⟨r, 12, none⟩)) (hS.pick [2, 3]) ?_
  refine K.o_ 31 rfl (.int .i64 D.count) (fun w hS => ((hS.blk 1 rfl hgd).cell rfl)) (hS.pick [2, 3]) ?_
  refine K.DW.l 27 rfl (by kernel_rfl) (by kernel_rfl) (K.OW.gcall hS [] [0, 1, 2, 3, 4] [.pointer none] (recCount_nil _ ) ?_)
  clear hS; rintro _ _ w ⟨rfl, rfl⟩ hS
  replace hS : K.Sat w0 [gp, gl, g_2, gd, fr] w := hS
  refine ⟨.inl (hS.pick [2, 3]), ?_⟩
  refine K.c 32 rfl (K.QR.nice (v := .bool ((0 : Int) == (D.count : Int))) (by kernel_rfl) (congrArg Value.bool (beq_iff_eq.2 (hq.symm)))) (hS.pick [2, 3]) ?_
  refine K.b 33 rfl (.bool true) (hS.pick [2, 3]) ?_
  refine K.b 34 rfl (.bool true) (hS.pick [2, 3]) ?_
  refine K.DW.done (by kernel_rfl) ?_
  refine K.t (K.r ?_)
  refine ⟨.inr rfl, rfl, (.bool true), K.res1 rfl rfl, [gp, gl, gd], ?_, hS.pick [0, 1, 3, 4]⟩
  exact ⟨rfl, rfl⟩
 ·
  replace hS : K.Sat w0 [gp, g_2, gl, gd, fr] w := hS
  refine K.q [.bool false] (K.n_ (K.n_ (K.n_ (K.q [.bool false, .bool false] (K.n_ (K.n_ (K.n_ (K.q [.bool false, .bool false] (K.n_ (K.n_ (K.n_ (K.q [.bool false, .bool false] (K.z (K.t ?_))))))))))))))
  refine K.s (K.g (K.q [.int .i64 (-1)] (K.z (K.t (K.s (K.s (K.g (K.q [.pointer (some ⟨r, 0, none⟩), .pointer (some ⟨r, 0, none⟩), .pointer (some ⟨r, 5, none⟩)] ?_))))))))
  refine K.d (.int .i64 D.kind) ((hS.blk 3 rfl hgd).cell rfl) ?_
  refine K.ye (D.kind : Int) (0 : Int) (by omega) ?_
  refine K.q [.bool true, .pointer (some ⟨r, 0, none⟩), .pointer (some ⟨r, 0, none⟩), .pointer (some ⟨r, 6, none⟩)] ?_
  refine K.d (.int .i64 D.line) ((hS.blk 3 rfl hgd).cell rfl) ?_
  refine K.xe (D.line : Int) (0 : Int) (by omega) ?_
  refine K.q [.bool false] (K.z (K.t (K.f (K.k (K.t (K.s ?_))))))
  refine K.KW.gdrawn [1, 3] hS (by kernel_rfl) ?_
  clear hS; intro w hS
  refine K.p 0 rfl (.bool false) (hS.pick [1, 3]) ?_
  refine K.b 1 rfl (.pointer (some ⟨r, 0, none⟩)) (hS.pick [1, 3]) ?_
  refine K.b 2 rfl (.pointer (some ⟨r, 0, none⟩)) (hS.pick [1, 3]) ?_
  refine K.b 3 rfl (.pointer (some ⟨r, 6, none⟩)) (hS.pick [1, 3]) ?_
  refine K.c 4 rfl (K.QR.ld1 (v := .int .i64 D.line) rfl rfl (by kernel_rfl) ((hS.blk 3 rfl hgd).cell rfl)) (hS.pick [1, 3]) ?_
  refine K.c 5 rfl (K.QR.nice (v := .bool ((D.line : Int) == (0 : Int))) (by kernel_rfl) (congrArg Value.bool (beq_eq_false_iff_ne.2 (by omega)))) (hS.pick [1, 3]) ?_
  refine K.b 6 rfl (.bool true) (hS.pick [1, 3]) ?_
  refine K.b 7 rfl (.bool true) (hS.pick [1, 3]) ?_
  refine K.p 8 rfl (.pointer (some ⟨r_1, 0, none⟩)) (hS.pick [1, 3]) ?_
  refine K.o_ 9 rfl (.pointer (some ⟨p, 0, none⟩)) (fun w hS => ((hS.blk 0 rfl hg_3).cell rfl)) (hS.pick [1, 3]) ?_
  refine K.p 11 rfl (.int .i64 (-1)) (hS.pick [1, 3]) ?_
  refine K.DW.l 10 rfl (by kernel_rfl) (by kernel_rfl) (K.OW.gcall hS [0, 2] [1, 3, 4] [.pointer (some ⟨p, 0, none⟩)] (rePlace_ok _ _ _ c (by first | assumption | (unfold cfgOk; decide)) S _ _ hgp hgl) ?_)
  clear hS; rintro _ _ w ⟨rfl, rfl⟩ hS
  replace hS : K.Sat w0 [gp, gl, g_2, gd, fr] w := hS
  refine ⟨.inl (hS.pick [2, 3]), ?_⟩
  refine K.c 12 rfl (K.QR.nice (v := .bool (((rePlace c S) : Int) == ((-1) : Int))) (by kernel_rfl) (congrArg Value.bool (beq_iff_eq.2 (rePlace_no (by omega))))) (hS.pick [2, 3]) ?_
  refine K.b 13 rfl (.bool true) (hS.pick [2, 3]) ?_
  refine K.b 14 rfl (.bool true) (hS.pick [2, 3]) ?_
  refine K.p 15 rfl (.pointer (some ⟨r_1, 3, none⟩)) (hS.pick [2, 3]) ?_
  refine K.o_ 16 rfl (.pointer none) (fun w hS => ((hS.blk 0 rfl hg_3).cell rfl)) (hS.pick [2, 3]) ?_
  refine K.p 18 rfl (.pointer (some ⟨r, 0, none⟩)) (hS.pick [2, 3]) ?_
  refine K.p 19 rfl (.pointer (some ⟨r, 0, none⟩)) (hS.pick [2, 3]) ?_
  refine K.p 20 rfl (.pointer (some ⟨r, 11, none⟩)) (hS.pick [2, 3]) ?_
  refine K.o_ 21 rfl (.int .i64 D.holds) (fun w hS => ((hS.blk 1 rfl hgd).cell rfl)) (hS.pick [2, 3]) ?_
  refine K.DW.l 17 rfl (by kernel_rfl) (by kernel_rfl) (K.OW.gcall hS [] [0, 1, 2, 3, 4] [.pointer none] (recHolds_nil _ ) ?_)
  clear hS; rintro _ _ w ⟨rfl, rfl⟩ hS
  replace hS : K.Sat w0 [gp, gl, g_2, gd, fr] w := hS
  refine ⟨.inl (hS.pick [2, 3]), ?_⟩
  refine K.c 22 rfl (K.QR.nice (v := .bool (((-1) : Int) == (D.holds : Int))) (by kernel_rfl) (congrArg Value.bool (beq_iff_eq.2 (hh.symm)))) (hS.pick [2, 3]) ?_
  refine K.b 23 rfl (.bool true) (hS.pick [2, 3]) ?_
  refine K.b 24 rfl (.bool true) (hS.pick [2, 3]) ?_
  refine K.p 25 rfl (.pointer (some ⟨r_1, 3, none⟩)) (hS.pick [2, 3]) ?_
  refine K.o_ 26 rfl (.pointer none) (fun w hS => ((hS.blk 0 rfl hg_3).cell rfl)) (hS.pick [2, 3]) ?_
  refine K.p 28 rfl (.pointer (some ⟨r, 0, none⟩)) (hS.pick [2, 3]) ?_
  refine K.p 29 rfl (.pointer (some ⟨r, 0, none⟩)) (hS.pick [2, 3]) ?_
  refine K.p 30 rfl (.pointer (some ⟨r, 12, none⟩)) (hS.pick [2, 3]) ?_
  refine K.o_ 31 rfl (.int .i64 D.count) (fun w hS => ((hS.blk 1 rfl hgd).cell rfl)) (hS.pick [2, 3]) ?_
  refine K.DW.l 27 rfl (by kernel_rfl) (by kernel_rfl) (K.OW.gcall hS [] [0, 1, 2, 3, 4] [.pointer none] (recCount_nil _ ) ?_)
  clear hS; rintro _ _ w ⟨rfl, rfl⟩ hS
  replace hS : K.Sat w0 [gp, gl, g_2, gd, fr] w := hS
  refine ⟨.inl (hS.pick [2, 3]), ?_⟩
  refine K.c 32 rfl (K.QR.nice (v := .bool ((0 : Int) == (D.count : Int))) (by kernel_rfl) (congrArg Value.bool (beq_iff_eq.2 (hq.symm)))) (hS.pick [2, 3]) ?_
  refine K.b 33 rfl (.bool true) (hS.pick [2, 3]) ?_
  refine K.b 34 rfl (.bool true) (hS.pick [2, 3]) ?_
  refine K.DW.done (by kernel_rfl) ?_
  refine K.t (K.r ?_)
  refine ⟨.inr rfl, rfl, (.bool true), K.res1 rfl rfl, [gp, gl, gd], ?_, hS.pick [0, 1, 3, 4]⟩
  exact ⟨rfl, rfl⟩
set_option maxHeartbeats 1000000 in
set_option maxRecDepth 100000 in
theorem mach_same_can (w0 : World) (p b r : Nat) (c : Cfg) (hc : cfgOk c) (S : CanS) (D : DM) (gp gl gd : K.Cs) (hgp : gp = canPt p b S) (hgl : gl = layPt b c) (hgd : gd = dmPt r c D) (hS : S.good) (hr : relCan S D) :
  K.GC Tryz.prog w0 28 #[.agg #[.pointer none, .pointer (some ⟨p, 0, none⟩), .pointer none, .pointer none], .pointer (some ⟨r, 0, none⟩)] [gp, gl, gd] (fun v post => v = .bool true ∧ post = [gp, gl, gd]) := by
 obtain ⟨ht, hk, hl, hn, hh, hq⟩ := hr
 have hl0 : (D.line = 0 ∧ S.pc = 5) ∨ (¬ D.line = 0 ∧ ¬ S.pc = 5) := by
  split at hl
  ·exact .inl ⟨hl, by assumption⟩
  ·exact .inr ⟨by omega, by assumption⟩
 refine K.GC.mk (n := 75) Tryz.func28 rfl rfl [.agg #[.pointer none, .pointer (some ⟨p, 0, none⟩), .pointer none, .pointer none], .pointer (some ⟨r, 0, none⟩)] rfl rfl ?_
 intro fr w hS
 replace hS : K.Sat w0 [gp, gl, gd, fr] w := hS
 refine K.s (K.g ?_)
 refine K.l (K.OW.gnew 58 [.pointer none, .pointer (some ⟨p, 0, none⟩), .pointer none, .pointer none] hS ?_)
 clear hS; intro w r_1 g_2 hg_3 hS
 refine K.q [.bool false] (K.z (K.t (K.s (K.g (K.q [.pointer (some ⟨r_1, 0, none⟩)] ?_)))))
 refine K.d (.pointer none) ((hS.blk 0 rfl hg_3).cell rfl) ?_
 refine K.l (K.OW.gcall hS [] [0, 1, 2, 3, 4] [.pointer none] (reDone_nil _ ) ?_)
 clear hS; rintro _ _ w ⟨rfl, rfl⟩ hS
 replace hS : K.Sat w0 [g_2, gp, gl, gd, fr] w := hS
 refine K.q [.bool true, .pointer (some ⟨r_1, 1, none⟩)] ?_
 refine K.d (.pointer (some ⟨p, 0, none⟩)) ((hS.blk 0 rfl hg_3).cell rfl) ?_
 refine K.l (K.OW.gcall hS [1] [0, 2, 3, 4] [.pointer (some ⟨p, 0, none⟩)] (canDone_ok _ _ _ S _ hgp) ?_)
 clear hS; rintro _ _ w ⟨rfl, (⟨rfl, h_4⟩ | ⟨rfl, h_5⟩)⟩ hS
 ·
  replace hS : K.Sat w0 [gp, g_2, gl, gd, fr] w := hS
  refine K.q [.bool true, .bool true, .pointer (some ⟨r_1, 2, none⟩)] ?_
  refine K.d (.pointer none) ((hS.blk 1 rfl hg_3).cell rfl) ?_
  refine K.l (K.OW.gcall hS [] [0, 1, 2, 3, 4] [.pointer none] (staDone_nil _ ) ?_)
  clear hS; rintro _ _ w ⟨rfl, rfl⟩ hS
  replace hS : K.Sat w0 [gp, g_2, gl, gd, fr] w := hS
  refine K.q [.bool true, .bool true, .pointer (some ⟨r_1, 3, none⟩)] ?_
  refine K.d (.pointer none) ((hS.blk 1 rfl hg_3).cell rfl) ?_
  refine K.l (K.OW.gcall hS [] [0, 1, 2, 3, 4] [.pointer none] (recDone_nil _ ) ?_)
  clear hS; rintro _ _ w ⟨rfl, rfl⟩ hS
  replace hS : K.Sat w0 [gp, g_2, gl, gd, fr] w := hS
  refine K.q [.bool true, .bool true] (K.z (K.t (K.s (K.g (K.q [.int .i64 (-1)] (K.z (K.t (K.s (K.s (K.g (K.q [.pointer (some ⟨r, 0, none⟩), .pointer (some ⟨r, 0, none⟩), .pointer (some ⟨r, 5, none⟩)] ?_)))))))))))
  refine K.d (.int .i64 D.kind) ((hS.blk 3 rfl hgd).cell rfl) ?_
  refine K.xe (D.kind : Int) (0 : Int) (by omega) ?_
  refine K.q [.bool false] (K.n_ (K.n_ (K.n_ (K.n_ (K.n_ (K.q [.bool false] (K.z (K.t (K.f (K.k (K.t (K.s ?_))))))))))))
  refine K.KW.gdrawn [1, 3] hS (by kernel_rfl) ?_
  clear hS; intro w hS
  refine K.p 0 rfl (.bool true) (hS.pick [1, 3]) ?_
  refine K.b 1 rfl (.pointer (some ⟨r, 0, none⟩)) (hS.pick [1, 3]) ?_
  refine K.b 2 rfl (.pointer (some ⟨r, 0, none⟩)) (hS.pick [1, 3]) ?_
  refine K.b 3 rfl (.pointer (some ⟨r, 6, none⟩)) (hS.pick [1, 3]) ?_
  refine K.c 4 rfl (K.QR.ld1 (v := .int .i64 D.line) rfl rfl (by kernel_rfl) ((hS.blk 3 rfl hgd).cell rfl)) (hS.pick [1, 3]) ?_
  refine K.c 5 rfl (K.QR.nice (v := .bool ((D.line : Int) == (0 : Int))) (by kernel_rfl) (congrArg Value.bool (beq_iff_eq.2 (by omega)))) (hS.pick [1, 3]) ?_
  refine K.b 6 rfl (.bool true) (hS.pick [1, 3]) ?_
  refine K.b 7 rfl (.bool true) (hS.pick [1, 3]) ?_
  refine K.p 8 rfl (.pointer (some ⟨r_1, 0, none⟩)) (hS.pick [1, 3]) ?_
  refine K.o_ 9 rfl (.pointer none) (fun w hS => ((hS.blk 0 rfl hg_3).cell rfl)) (hS.pick [1, 3]) ?_
  refine K.p 11 rfl (.int .i64 (-1)) (hS.pick [1, 3]) ?_
  refine K.DW.l 10 rfl (by kernel_rfl) (by kernel_rfl) (K.OW.gcall hS [] [0, 1, 2, 3, 4] [.pointer none] (rePlace_nil _ ) ?_)
  clear hS; rintro _ _ w ⟨rfl, rfl⟩ hS
  replace hS : K.Sat w0 [gp, g_2, gl, gd, fr] w := hS
  refine ⟨.inl (hS.pick [1, 3]), ?_⟩
  refine K.b 12 rfl (.bool true) (hS.pick [1, 3]) ?_
  refine K.b 13 rfl (.bool true) (hS.pick [1, 3]) ?_
  refine K.b 14 rfl (.bool true) (hS.pick [1, 3]) ?_
  refine K.p 15 rfl (.pointer (some ⟨r_1, 3, none⟩)) (hS.pick [1, 3]) ?_
  refine K.o_ 16 rfl (.pointer none) (fun w hS => ((hS.blk 0 rfl hg_3).cell rfl)) (hS.pick [1, 3]) ?_
  refine K.p 18 rfl (.pointer (some ⟨r, 0, none⟩)) (hS.pick [1, 3]) ?_
  refine K.p 19 rfl (.pointer (some ⟨r, 0, none⟩)) (hS.pick [1, 3]) ?_
  refine K.p 20 rfl (.pointer (some ⟨r, 11, none⟩)) (hS.pick [1, 3]) ?_
  refine K.o_ 21 rfl (.int .i64 D.holds) (fun w hS => ((hS.blk 1 rfl hgd).cell rfl)) (hS.pick [1, 3]) ?_
  refine K.DW.l 17 rfl (by kernel_rfl) (by kernel_rfl) (K.OW.gcall hS [] [0, 1, 2, 3, 4] [.pointer none] (recHolds_nil _ ) ?_)
  clear hS; rintro _ _ w ⟨rfl, rfl⟩ hS
  replace hS : K.Sat w0 [gp, g_2, gl, gd, fr] w := hS
  refine ⟨.inl (hS.pick [1, 3]), ?_⟩
  refine K.c 22 rfl (K.QR.nice (v := .bool (((-1) : Int) == (D.holds : Int))) (by kernel_rfl) (congrArg Value.bool (beq_iff_eq.2 (hh.symm)))) (hS.pick [1, 3]) ?_
  refine K.b 23 rfl (.bool true) (hS.pick [1, 3]) ?_
  refine K.b 24 rfl (.bool true) (hS.pick [1, 3]) ?_
  refine K.p 25 rfl (.pointer (some ⟨r_1, 3, none⟩)) (hS.pick [1, 3]) ?_
  refine K.o_ 26 rfl (.pointer none) (fun w hS => ((hS.blk 0 rfl hg_3).cell rfl)) (hS.pick [1, 3]) ?_
  refine K.p 28 rfl (.pointer (some ⟨r, 0, none⟩)) (hS.pick [1, 3]) ?_
  refine K.p 29 rfl (.pointer (some ⟨r, 0, none⟩)) (hS.pick [1, 3]) ?_
  refine K.p 30 rfl (.pointer (some ⟨r, 12, none⟩)) (hS.pick [1, 3]) ?_
  refine K.o_ 31 rfl (.int .i64 D.count) (fun w hS => ((hS.blk 1 rfl hgd).cell rfl)) (hS.pick [1, 3]) ?_
  refine K.DW.l 27 rfl (by kernel_rfl) (by kernel_rfl) (K.OW.gcall hS [] [0, 1, 2, 3, 4] [.pointer none] (recCount_nil _ ) ?_)
  clear hS; rintro _ _ w ⟨rfl, rfl⟩ hS
  replace hS : K.Sat w0 [gp, g_2, gl, gd, fr] w := hS
  refine ⟨.inl (hS.pick [1, 3]), ?_⟩
  refine K.c 32 rfl (K.QR.nice (v := .bool ((0 : Int) == (D.count : Int))) (by kernel_rfl) (congrArg Value.bool (beq_iff_eq.2 (hq.symm)))) (hS.pick [1, 3]) ?_
  refine K.b 33 rfl (.bool true) (hS.pick [1, 3]) ?_
  refine K.b 34 rfl (.bool true) (hS.pick [1, 3]) ?_
  refine K.DW.done (by kernel_rfl) ?_
  refine K.t (K.r ?_)
  refine ⟨.inr rfl, rfl, (.bool true), K.res1 rfl rfl, [gp, gl, gd], ?_, hS.pick [0, 2, 3, 4]⟩
  exact ⟨rfl, rfl⟩
 ·
  replace hS : K.Sat w0 [gp, g_2, gl, gd, fr] w := hS
  refine K.q [.bool false, .bool false] (K.n_ (K.n_ (K.n_ (K.q [.bool false, .bool false] (K.n_ (K.n_ (K.n_ (K.q [.bool false, .bool false] (K.z (K.t (K.s (K.g (K.q [.int .i64 (-1)] (K.z ?_))))))))))))))
  refine K.t (K.s (K.s (K.g (K.q [.pointer (some ⟨r, 0, none⟩), .pointer (some ⟨r, 0, none⟩), .pointer (some ⟨r, 5, none⟩)] ?_))))
  refine K.d (.int .i64 D.kind) ((hS.blk 3 rfl hgd).cell rfl) ?_
  refine K.xe (D.kind : Int) (0 : Int) (by omega) ?_
  refine K.q [.bool false] (K.n_ (K.n_ (K.n_ (K.n_ (K.n_ (K.q [.bool false] (K.z (K.t (K.f (K.k (K.t (K.s ?_))))))))))))
  refine K.KW.gdrawn [1, 3] hS (by kernel_rfl) ?_
  clear hS; intro w hS
  refine K.p 0 rfl (.bool false) (hS.pick [1, 3]) ?_
  refine K.b 1 rfl (.pointer (some ⟨r, 0, none⟩)) (hS.pick [1, 3]) ?_
  refine K.b 2 rfl (.pointer (some ⟨r, 0, none⟩)) (hS.pick [1, 3]) ?_
  refine K.b 3 rfl (.pointer (some ⟨r, 6, none⟩)) (hS.pick [1, 3]) ?_
  refine K.c 4 rfl (K.QR.ld1 (v := .int .i64 D.line) rfl rfl (by kernel_rfl) ((hS.blk 3 rfl hgd).cell rfl)) (hS.pick [1, 3]) ?_
  refine K.c 5 rfl (K.QR.nice (v := .bool ((D.line : Int) == (0 : Int))) (by kernel_rfl) (congrArg Value.bool (beq_eq_false_iff_ne.2 (by omega)))) (hS.pick [1, 3]) ?_
  refine K.b 6 rfl (.bool true) (hS.pick [1, 3]) ?_
  refine K.b 7 rfl (.bool true) (hS.pick [1, 3]) ?_
  refine K.p 8 rfl (.pointer (some ⟨r_1, 0, none⟩)) (hS.pick [1, 3]) ?_
  refine K.o_ 9 rfl (.pointer none) (fun w hS => ((hS.blk 0 rfl hg_3).cell rfl)) (hS.pick [1, 3]) ?_
  refine K.p 11 rfl (.int .i64 (-1)) (hS.pick [1, 3]) ?_
  refine K.DW.l 10 rfl (by kernel_rfl) (by kernel_rfl) (K.OW.gcall hS [] [0, 1, 2, 3, 4] [.pointer none] (rePlace_nil _ ) ?_)
  clear hS; rintro _ _ w ⟨rfl, rfl⟩ hS
  replace hS : K.Sat w0 [gp, g_2, gl, gd, fr] w := hS
  refine ⟨.inl (hS.pick [1, 3]), ?_⟩
  refine K.b 12 rfl (.bool true) (hS.pick [1, 3]) ?_
  refine K.b 13 rfl (.bool true) (hS.pick [1, 3]) ?_
  refine K.b 14 rfl (.bool true) (hS.pick [1, 3]) ?_
  refine K.p 15 rfl (.pointer (some ⟨r_1, 3, none⟩)) (hS.pick [1, 3]) ?_
  refine K.o_ 16 rfl (.pointer none) (fun w hS => ((hS.blk 0 rfl hg_3).cell rfl)) (hS.pick [1, 3]) ?_
  refine K.p 18 rfl (.pointer (some ⟨r, 0, none⟩)) (hS.pick [1, 3]) ?_
  refine K.p 19 rfl (.pointer (some ⟨r, 0, none⟩)) (hS.pick [1, 3]) ?_
  refine K.p 20 rfl (.pointer (some ⟨r, 11, none⟩)) (hS.pick [1, 3]) ?_
  refine K.o_ 21 rfl (.int .i64 D.holds) (fun w hS => ((hS.blk 1 rfl hgd).cell rfl)) (hS.pick [1, 3]) ?_
  refine K.DW.l 17 rfl (by kernel_rfl) (by kernel_rfl) (K.OW.gcall hS [] [0, 1, 2, 3, 4] [.pointer none] (recHolds_nil _ ) ?_)
  clear hS; rintro _ _ w ⟨rfl, rfl⟩ hS
  replace hS : K.Sat w0 [gp, g_2, gl, gd, fr] w := hS
  refine ⟨.inl (hS.pick [1, 3]), ?_⟩
  refine K.c 22 rfl (K.QR.nice (v := .bool (((-1) : Int) == (D.holds : Int))) (by kernel_rfl) (congrArg Value.bool (beq_iff_eq.2 (hh.symm)))) (hS.pick [1, 3]) ?_
  refine K.b 23 rfl (.bool true) (hS.pick [1, 3]) ?_
  refine K.b 24 rfl (.bool true) (hS.pick [1, 3]) ?_
  refine K.p 25 rfl (.pointer (some ⟨r_1, 3, none⟩)) (hS.pick [1, 3]) ?_
  refine K.o_ 26 rfl (.pointer none) (fun w hS => ((hS.blk 0 rfl hg_3).cell rfl)) (hS.pick [1, 3]) ?_
  refine K.p 28 rfl (.pointer (some ⟨r, 0, none⟩)) (hS.pick [1, 3]) ?_
  refine K.p 29 rfl (.pointer (some ⟨r, 0, none⟩)) (hS.pick [1, 3]) ?_
  refine K.p 30 rfl (.pointer (some ⟨r, 12, none⟩)) (hS.pick [1, 3]) ?_
  refine K.o_ 31 rfl (.int .i64 D.count) (fun w hS => ((hS.blk 1 rfl hgd).cell rfl)) (hS.pick [1, 3]) ?_
  refine K.DW.l 27 rfl (by kernel_rfl) (by kernel_rfl) (K.OW.gcall hS [] [0, 1, 2, 3, 4] [.pointer none] (recCount_nil _ ) ?_)
  clear hS; rintro _ _ w ⟨rfl, rfl⟩ hS
  replace hS : K.Sat w0 [gp, g_2, gl, gd, fr] w := hS
  refine ⟨.inl (hS.pick [1, 3]), ?_⟩
  refine K.c 32 rfl (K.QR.nice (v := .bool ((0 : Int) == (D.count : Int))) (by kernel_rfl) (congrArg Value.bool (beq_iff_eq.2 (hq.symm)))) (hS.pick [1, 3]) ?_
  refine K.b 33 rfl (.bool true) (hS.pick [1, 3]) ?_
  refine K.b 34 rfl (.bool true) (hS.pick [1, 3]) ?_
  refine K.DW.done (by kernel_rfl) ?_
  refine K.t (K.r ?_)
  refine ⟨.inr rfl, rfl, (.bool true), K.res1 rfl rfl, [gp, gl, gd], ?_, hS.pick [0, 2, 3, 4]⟩
  exact ⟨rfl, rfl⟩
set_option maxHeartbeats 1000000 in
set_option maxRecDepth 100000 in
theorem mach_same_sta (w0 : World) (p b r : Nat) (c : Cfg) (hc : cfgOk c) (S : StaS) (D : DM) (gp gl gd : K.Cs) (hgp : gp = staPt p b S) (hgl : gl = layPt b c) (hgd : gd = dmPt r c D) (hS : S.good) (hr : relSta S D) :
  K.GC Tryz.prog w0 28 #[.agg #[.pointer none, .pointer none, .pointer (some ⟨p, 0, none⟩), .pointer none], .pointer (some ⟨r, 0, none⟩)] [gp, gl, gd] (fun v post => v = .bool true ∧ post = [gp, gl, gd]) := by
 obtain ⟨ht, hk, hl, hn, hs, hw, hh, hq⟩ := hr
 have hl0 := lineR_0 hl hS.2.1.1
 refine K.GC.mk (n := 75) Tryz.func28 rfl rfl [.agg #[.pointer none, .pointer none, .pointer (some ⟨p, 0, none⟩), .pointer none], .pointer (some ⟨r, 0, none⟩)] rfl rfl ?_
 intro fr w hS
 replace hS : K.Sat w0 [gp, gl, gd, fr] w := hS
 refine K.s (K.g ?_)
 refine K.l (K.OW.gnew 58 [.pointer none, .pointer none, .pointer (some ⟨p, 0, none⟩), .pointer none] hS ?_)
 clear hS; intro w r_1 g_2 hg_3 hS
 refine K.q [.bool false] (K.z (K.t (K.s (K.g (K.q [.pointer (some ⟨r_1, 0, none⟩)] ?_)))))
 refine K.d (.pointer none) ((hS.blk 0 rfl hg_3).cell rfl) ?_
 refine K.l (K.OW.gcall hS [] [0, 1, 2, 3, 4] [.pointer none] (reDone_nil _ ) ?_)
 clear hS; rintro _ _ w ⟨rfl, rfl⟩ hS
 replace hS : K.Sat w0 [g_2, gp, gl, gd, fr] w := hS
 refine K.q [.bool true, .pointer (some ⟨r_1, 1, none⟩)] ?_
 refine K.d (.pointer none) ((hS.blk 0 rfl hg_3).cell rfl) ?_
 refine K.l (K.OW.gcall hS [] [0, 1, 2, 3, 4] [.pointer none] (canDone_nil _ ) ?_)
 clear hS; rintro _ _ w ⟨rfl, rfl⟩ hS
 replace hS : K.Sat w0 [g_2, gp, gl, gd, fr] w := hS
 refine K.q [.bool true, .bool true, .pointer (some ⟨r_1, 2, none⟩)] ?_
 refine K.d (.pointer (some ⟨p, 0, none⟩)) ((hS.blk 0 rfl hg_3).cell rfl) ?_
 refine K.l (K.OW.gcall hS [1] [0, 2, 3, 4] [.pointer (some ⟨p, 0, none⟩)] (staDone_ok _ _ _ S _ hgp) ?_)
 clear hS; rintro _ _ w ⟨rfl, (⟨rfl, h_4⟩ | ⟨rfl, h_5⟩)⟩ hS
 ·
  replace hS : K.Sat w0 [gp, g_2, gl, gd, fr] w := hS
  refine K.q [.bool true, .bool true, .pointer (some ⟨r_1, 3, none⟩)] ?_
  refine K.d (.pointer none) ((hS.blk 1 rfl hg_3).cell rfl) ?_
  refine K.l (K.OW.gcall hS [] [0, 1, 2, 3, 4] [.pointer none] (recDone_nil _ ) ?_)
  clear hS; rintro _ _ w ⟨rfl, rfl⟩ hS
  replace hS : K.Sat w0 [gp, g_2, gl, gd, fr] w := hS
  refine K.q [.bool true, .bool true] (K.z (K.t (K.s (K.g (K.q [.int .i64 (-1)] (K.z (K.t (K.s (K.s (K.g (K.q [.pointer (some ⟨r, 0, none⟩), .pointer (some ⟨r, 0, none⟩), .pointer (some ⟨r, 5, none⟩)] ?_)))))))))))
  refine K.d (.int .i64 D.kind) ((hS.blk 3 rfl hgd).cell rfl) ?_
  refine K.xe (D.kind : Int) (0 : Int) (by omega) ?_
  refine K.q [.bool false] (K.n_ (K.n_ (K.n_ (K.n_ (K.n_ (K.q [.bool false] (K.z (K.t (K.f (K.k (K.t (K.s ?_))))))))))))
  refine K.KW.gdrawn [1, 3] hS (by kernel_rfl) ?_
  clear hS; intro w hS
  refine K.p 0 rfl (.bool true) (hS.pick [1, 3]) ?_
  refine K.b 1 rfl (.pointer (some ⟨r, 0, none⟩)) (hS.pick [1, 3]) ?_
  refine K.b 2 rfl (.pointer (some ⟨r, 0, none⟩)) (hS.pick [1, 3]) ?_
  refine K.b 3 rfl (.pointer (some ⟨r, 6, none⟩)) (hS.pick [1, 3]) ?_
  refine K.c 4 rfl (K.QR.ld1 (v := .int .i64 D.line) rfl rfl (by kernel_rfl) ((hS.blk 3 rfl hgd).cell rfl)) (hS.pick [1, 3]) ?_
  refine K.c 5 rfl (K.QR.nice (v := .bool ((D.line : Int) == (0 : Int))) (by kernel_rfl) (congrArg Value.bool (beq_iff_eq.2 (by omega)))) (hS.pick [1, 3]) ?_
  refine K.b 6 rfl (.bool true) (hS.pick [1, 3]) ?_
  refine K.b 7 rfl (.bool true) (hS.pick [1, 3]) ?_
  refine K.p 8 rfl (.pointer (some ⟨r_1, 0, none⟩)) (hS.pick [1, 3]) ?_
  refine K.o_ 9 rfl (.pointer none) (fun w hS => ((hS.blk 0 rfl hg_3).cell rfl)) (hS.pick [1, 3]) ?_
  refine K.p 11 rfl (.int .i64 (-1)) (hS.pick [1, 3]) ?_
  refine K.DW.l 10 rfl (by kernel_rfl) (by kernel_rfl) (K.OW.gcall hS [] [0, 1, 2, 3, 4] [.pointer none] (rePlace_nil _ ) ?_)
  clear hS; rintro _ _ w ⟨rfl, rfl⟩ hS
  replace hS : K.Sat w0 [gp, g_2, gl, gd, fr] w := hS
  refine ⟨.inl (hS.pick [1, 3]), ?_⟩
  refine K.b 12 rfl (.bool true) (hS.pick [1, 3]) ?_
  refine K.b 13 rfl (.bool true) (hS.pick [1, 3]) ?_
  refine K.b 14 rfl (.bool true) (hS.pick [1, 3]) ?_
  refine K.p 15 rfl (.pointer (some ⟨r_1, 3, none⟩)) (hS.pick [1, 3]) ?_
  refine K.o_ 16 rfl (.pointer none) (fun w hS => ((hS.blk 0 rfl hg_3).cell rfl)) (hS.pick [1, 3]) ?_
  refine K.p 18 rfl (.pointer (some ⟨r, 0, none⟩)) (hS.pick [1, 3]) ?_
  refine K.p 19 rfl (.pointer (some ⟨r, 0, none⟩)) (hS.pick [1, 3]) ?_
  refine K.p 20 rfl (.pointer (some ⟨r, 11, none⟩)) (hS.pick [1, 3]) ?_
  refine K.o_ 21 rfl (.int .i64 D.holds) (fun w hS => ((hS.blk 1 rfl hgd).cell rfl)) (hS.pick [1, 3]) ?_
  refine K.DW.l 17 rfl (by kernel_rfl) (by kernel_rfl) (K.OW.gcall hS [] [0, 1, 2, 3, 4] [.pointer none] (recHolds_nil _ ) ?_)
  clear hS; rintro _ _ w ⟨rfl, rfl⟩ hS
  replace hS : K.Sat w0 [gp, g_2, gl, gd, fr] w := hS
  refine ⟨.inl (hS.pick [1, 3]), ?_⟩
  refine K.c 22 rfl (K.QR.nice (v := .bool (((-1) : Int) == (D.holds : Int))) (by kernel_rfl) (congrArg Value.bool (beq_iff_eq.2 (hh.symm)))) (hS.pick [1, 3]) ?_
  refine K.b 23 rfl (.bool true) (hS.pick [1, 3]) ?_
  refine K.b 24 rfl (.bool true) (hS.pick [1, 3]) ?_
  refine K.p 25 rfl (.pointer (some ⟨r_1, 3, none⟩)) (hS.pick [1, 3]) ?_
  refine K.o_ 26 rfl (.pointer none) (fun w hS => ((hS.blk 0 rfl hg_3).cell rfl)) (hS.pick [1, 3]) ?_
  refine K.p 28 rfl (.pointer (some ⟨r, 0, none⟩)) (hS.pick [1, 3]) ?_
  refine K.p 29 rfl (.pointer (some ⟨r, 0, none⟩)) (hS.pick [1, 3]) ?_
  refine K.p 30 rfl (.pointer (some ⟨r, 12, none⟩)) (hS.pick [1, 3]) ?_
  refine K.o_ 31 rfl (.int .i64 D.count) (fun w hS => ((hS.blk 1 rfl hgd).cell rfl)) (hS.pick [1, 3]) ?_
  refine K.DW.l 27 rfl (by kernel_rfl) (by kernel_rfl) (K.OW.gcall hS [] [0, 1, 2, 3, 4] [.pointer none] (recCount_nil _ ) ?_)
  clear hS; rintro _ _ w ⟨rfl, rfl⟩ hS
  replace hS : K.Sat w0 [gp, g_2, gl, gd, fr] w := hS
  refine ⟨.inl (hS.pick [1, 3]), ?_⟩
  refine K.c 32 rfl (K.QR.nice (v := .bool ((0 : Int) == (D.count : Int))) (by kernel_rfl) (congrArg Value.bool (beq_iff_eq.2 (hq.symm)))) (hS.pick [1, 3]) ?_
  refine K.b 33 rfl (.bool true) (hS.pick [1, 3]) ?_
  refine K.b 34 rfl (.bool true) (hS.pick [1, 3]) ?_
  refine K.DW.done (by kernel_rfl) ?_
  refine K.t (K.r ?_)
  refine ⟨.inr rfl, rfl, (.bool true), K.res1 rfl rfl, [gp, gl, gd], ?_, hS.pick [0, 2, 3, 4]⟩
  exact ⟨rfl, rfl⟩
 ·
  replace hS : K.Sat w0 [gp, g_2, gl, gd, fr] w := hS
  refine K.q [.bool false, .bool false] (K.n_ (K.n_ (K.n_ (K.q [.bool false, .bool false] (K.z (K.t (K.s (K.g (K.q [.int .i64 (-1)] (K.z (K.t (K.s (K.s (K.g ?_))))))))))))))
  refine K.q [.pointer (some ⟨r, 0, none⟩), .pointer (some ⟨r, 0, none⟩), .pointer (some ⟨r, 5, none⟩)] ?_
  refine K.d (.int .i64 D.kind) ((hS.blk 3 rfl hgd).cell rfl) ?_
  refine K.xe (D.kind : Int) (0 : Int) (by omega) ?_
  refine K.q [.bool false] (K.n_ (K.n_ (K.n_ (K.n_ (K.n_ (K.q [.bool false] (K.z (K.t (K.f (K.k (K.t (K.s ?_))))))))))))
  refine K.KW.gdrawn [1, 3] hS (by kernel_rfl) ?_
  clear hS; intro w hS
  refine K.p 0 rfl (.bool false) (hS.pick [1, 3]) ?_
  refine K.b 1 rfl (.pointer (some ⟨r, 0, none⟩)) (hS.pick [1, 3]) ?_
  refine K.b 2 rfl (.pointer (some ⟨r, 0, none⟩)) (hS.pick [1, 3]) ?_
  refine K.b 3 rfl (.pointer (some ⟨r, 6, none⟩)) (hS.pick [1, 3]) ?_
  refine K.c 4 rfl (K.QR.ld1 (v := .int .i64 D.line) rfl rfl (by kernel_rfl) ((hS.blk 3 rfl hgd).cell rfl)) (hS.pick [1, 3]) ?_
  refine K.c 5 rfl (K.QR.nice (v := .bool ((D.line : Int) == (0 : Int))) (by kernel_rfl) (congrArg Value.bool (beq_eq_false_iff_ne.2 (by omega)))) (hS.pick [1, 3]) ?_
  refine K.b 6 rfl (.bool true) (hS.pick [1, 3]) ?_
  refine K.b 7 rfl (.bool true) (hS.pick [1, 3]) ?_
  refine K.p 8 rfl (.pointer (some ⟨r_1, 0, none⟩)) (hS.pick [1, 3]) ?_
  refine K.o_ 9 rfl (.pointer none) (fun w hS => ((hS.blk 0 rfl hg_3).cell rfl)) (hS.pick [1, 3]) ?_
  refine K.p 11 rfl (.int .i64 (-1)) (hS.pick [1, 3]) ?_
  refine K.DW.l 10 rfl (by kernel_rfl) (by kernel_rfl) (K.OW.gcall hS [] [0, 1, 2, 3, 4] [.pointer none] (rePlace_nil _ ) ?_)
  clear hS; rintro _ _ w ⟨rfl, rfl⟩ hS
  replace hS : K.Sat w0 [gp, g_2, gl, gd, fr] w := hS
  refine ⟨.inl (hS.pick [1, 3]), ?_⟩
  refine K.b 12 rfl (.bool true) (hS.pick [1, 3]) ?_
  refine K.b 13 rfl (.bool true) (hS.pick [1, 3]) ?_
  refine K.b 14 rfl (.bool true) (hS.pick [1, 3]) ?_
  refine K.p 15 rfl (.pointer (some ⟨r_1, 3, none⟩)) (hS.pick [1, 3]) ?_
  refine K.o_ 16 rfl (.pointer none) (fun w hS => ((hS.blk 0 rfl hg_3).cell rfl)) (hS.pick [1, 3]) ?_
  refine K.p 18 rfl (.pointer (some ⟨r, 0, none⟩)) (hS.pick [1, 3]) ?_
  refine K.p 19 rfl (.pointer (some ⟨r, 0, none⟩)) (hS.pick [1, 3]) ?_
  refine K.p 20 rfl (.pointer (some ⟨r, 11, none⟩)) (hS.pick [1, 3]) ?_
  refine K.o_ 21 rfl (.int .i64 D.holds) (fun w hS => ((hS.blk 1 rfl hgd).cell rfl)) (hS.pick [1, 3]) ?_
  refine K.DW.l 17 rfl (by kernel_rfl) (by kernel_rfl) (K.OW.gcall hS [] [0, 1, 2, 3, 4] [.pointer none] (recHolds_nil _ ) ?_)
  clear hS; rintro _ _ w ⟨rfl, rfl⟩ hS
  replace hS : K.Sat w0 [gp, g_2, gl, gd, fr] w := hS
  refine ⟨.inl (hS.pick [1, 3]), ?_⟩
  refine K.c 22 rfl (K.QR.nice (v := .bool (((-1) : Int) == (D.holds : Int))) (by kernel_rfl) (congrArg Value.bool (beq_iff_eq.2 (hh.symm)))) (hS.pick [1, 3]) ?_
  refine K.b 23 rfl (.bool true) (hS.pick [1, 3]) ?_
  refine K.b 24 rfl (.bool true) (hS.pick [1, 3]) ?_
  refine K.p 25 rfl (.pointer (some ⟨r_1, 3, none⟩)) (hS.pick [1, 3]) ?_
  refine K.o_ 26 rfl (.pointer none) (fun w hS => ((hS.blk 0 rfl hg_3).cell rfl)) (hS.pick [1, 3]) ?_
  refine K.p 28 rfl (.pointer (some ⟨r, 0, none⟩)) (hS.pick [1, 3]) ?_
  refine K.p 29 rfl (.pointer (some ⟨r, 0, none⟩)) (hS.pick [1, 3]) ?_
  refine K.p 30 rfl (.pointer (some ⟨r, 12, none⟩)) (hS.pick [1, 3]) ?_
  refine K.o_ 31 rfl (.int .i64 D.count) (fun w hS => ((hS.blk 1 rfl hgd).cell rfl)) (hS.pick [1, 3]) ?_
  refine K.DW.l 27 rfl (by kernel_rfl) (by kernel_rfl) (K.OW.gcall hS [] [0, 1, 2, 3, 4] [.pointer none] (recCount_nil _ ) ?_)
  clear hS; rintro _ _ w ⟨rfl, rfl⟩ hS
  replace hS : K.Sat w0 [gp, g_2, gl, gd, fr] w := hS
  refine ⟨.inl (hS.pick [1, 3]), ?_⟩
  refine K.c 32 rfl (K.QR.nice (v := .bool ((0 : Int) == (D.count : Int))) (by kernel_rfl) (congrArg Value.bool (beq_iff_eq.2 (hq.symm)))) (hS.pick [1, 3]) ?_
  refine K.b 33 rfl (.bool true) (hS.pick [1, 3]) ?_
  refine K.b 34 rfl (.bool true) (hS.pick [1, 3]) ?_
  refine K.DW.done (by kernel_rfl) ?_
  refine K.t (K.r ?_)
  refine ⟨.inr rfl, rfl, (.bool true), K.res1 rfl rfl, [gp, gl, gd], ?_, hS.pick [0, 2, 3, 4]⟩
  exact ⟨rfl, rfl⟩
set_option maxHeartbeats 1000000 in
set_option maxRecDepth 100000 in
theorem mach_same_rc (w0 : World) (p b r : Nat) (c : Cfg) (hc : cfgOk c) (a : Option Addr) (S : RecS) (D : DM) (gp gl gd : K.Cs) (hgp : gp = recPt p b a S) (hgl : gl = layPt b c) (hgd : gd = dmPt r c D) (hS : S.good c) (hr : relRec c S D) :
  K.GC Tryz.prog w0 28 #[.agg #[.pointer none, .pointer none, .pointer none, .pointer (some ⟨p, 0, none⟩)], .pointer (some ⟨r, 0, none⟩)] [gp, gl, gd] (fun v post => v = .bool true ∧ post = [gp, gl, gd]) := by
 obtain ⟨ht, hk, hl, hn, hw, hh, hq, hs, hp⟩ := hr
 have hl0 := lineC_0 hl (rec_pc0 hS)
 refine K.GC.mk (n := 75) Tryz.func28 rfl rfl [.agg #[.pointer none, .pointer none, .pointer none, .pointer (some ⟨p, 0, none⟩)], .pointer (some ⟨r, 0, none⟩)] rfl rfl ?_
 intro fr w hS
 replace hS : K.Sat w0 [gp, gl, gd, fr] w := hS
 refine K.s (K.g ?_)
 refine K.l (K.OW.gnew 58 [.pointer none, .pointer none, .pointer none, .pointer (some ⟨p, 0, none⟩)] hS ?_)
 clear hS; intro w r_1 g_2 hg_3 hS
 refine K.q [.bool false] (K.z (K.t (K.s (K.g (K.q [.pointer (some ⟨r_1, 0, none⟩)] ?_)))))
 refine K.d (.pointer none) ((hS.blk 0 rfl hg_3).cell rfl) ?_
 refine K.l (K.OW.gcall hS [] [0, 1, 2, 3, 4] [.pointer none] (reDone_nil _ ) ?_)
 clear hS; rintro _ _ w ⟨rfl, rfl⟩ hS
 replace hS : K.Sat w0 [g_2, gp, gl, gd, fr] w := hS
 refine K.q [.bool true, .pointer (some ⟨r_1, 1, none⟩)] ?_
 refine K.d (.pointer none) ((hS.blk 0 rfl hg_3).cell rfl) ?_
 refine K.l (K.OW.gcall hS [] [0, 1, 2, 3, 4] [.pointer none] (canDone_nil _ ) ?_)
 clear hS; rintro _ _ w ⟨rfl, rfl⟩ hS
 replace hS : K.Sat w0 [g_2, gp, gl, gd, fr] w := hS
 refine K.q [.bool true, .bool true, .pointer (some ⟨r_1, 2, none⟩)] ?_
 refine K.d (.pointer none) ((hS.blk 0 rfl hg_3).cell rfl) ?_
 refine K.l (K.OW.gcall hS [] [0, 1, 2, 3, 4] [.pointer none] (staDone_nil _ ) ?_)
 clear hS; rintro _ _ w ⟨rfl, rfl⟩ hS
 replace hS : K.Sat w0 [g_2, gp, gl, gd, fr] w := hS
 refine K.q [.bool true, .bool true, .pointer (some ⟨r_1, 3, none⟩)] ?_
 refine K.d (.pointer (some ⟨p, 0, none⟩)) ((hS.blk 0 rfl hg_3).cell rfl) ?_
 refine K.l (K.OW.gcall hS [1] [0, 2, 3, 4] [.pointer (some ⟨p, 0, none⟩)] (recDone_ok _ _ _ _ ⟨S.t, S.pc, S.now, S.next, S.slot, S.count, S.push⟩ _ hgp) ?_)
 clear hS; rintro _ _ w ⟨rfl, (⟨rfl, h_4⟩ | ⟨rfl, h_5⟩)⟩ hS
 ·
  replace hS : K.Sat w0 [gp, g_2, gl, gd, fr] w := hS
  replace h_4 : S.pc = 5 := h_4
  refine K.q [.bool true, .bool true] (K.z (K.t (K.s (K.g (K.q [.int .i64 (-1)] (K.z (K.t (K.s (K.s (K.g (K.q [.pointer (some ⟨r, 0, none⟩), .pointer (some ⟨r, 0, none⟩), .pointer (some ⟨r, 5, none⟩)] ?_)))))))))))
  refine K.d (.int .i64 D.kind) ((hS.blk 3 rfl hgd).cell rfl) ?_
  refine K.xe (D.kind : Int) (0 : Int) (by omega) ?_
  refine K.q [.bool false] (K.n_ (K.n_ (K.n_ (K.n_ (K.n_ (K.q [.bool false] (K.z (K.t (K.f (K.k (K.t (K.s ?_))))))))))))
  refine K.KW.gdrawn [1, 3] hS (by kernel_rfl) ?_
  clear hS; intro w hS
  refine K.p 0 rfl (.bool true) (hS.pick [1, 3]) ?_
  refine K.b 1 rfl (.pointer (some ⟨r, 0, none⟩)) (hS.pick [1, 3]) ?_
  refine K.b 2 rfl (.pointer (some ⟨r, 0, none⟩)) (hS.pick [1, 3]) ?_
  refine K.b 3 rfl (.pointer (some ⟨r, 6, none⟩)) (hS.pick [1, 3]) ?_
  refine K.c 4 rfl (K.QR.ld1 (v := .int .i64 D.line) rfl rfl (by kernel_rfl) ((hS.blk 3 rfl hgd).cell rfl)) (hS.pick [1, 3]) ?_
  refine K.c 5 rfl (K.QR.nice (v := .bool ((D.line : Int) == (0 : Int))) (by kernel_rfl) (congrArg Value.bool (beq_iff_eq.2 (by omega)))) (hS.pick [1, 3]) ?_
  refine K.b 6 rfl (.bool true) (hS.pick [1, 3]) ?_
  refine K.b 7 rfl (.bool true) (hS.pick [1, 3]) ?_
  refine K.p 8 rfl (.pointer (some ⟨r_1, 0, none⟩)) (hS.pick [1, 3]) ?_
  refine K.o_ 9 rfl (.pointer none) (fun w hS => ((hS.blk 0 rfl hg_3).cell rfl)) (hS.pick [1, 3]) ?_
  refine K.p 11 rfl (.int .i64 (-1)) (hS.pick [1, 3]) ?_
  refine K.DW.l 10 rfl (by kernel_rfl) (by kernel_rfl) (K.OW.gcall hS [] [0, 1, 2, 3, 4] [.pointer none] (rePlace_nil _ ) ?_)
  clear hS; rintro _ _ w ⟨rfl, rfl⟩ hS
  replace hS : K.Sat w0 [gp, g_2, gl, gd, fr] w := hS
  refine ⟨.inl (hS.pick [1, 3]), ?_⟩
  refine K.b 12 rfl (.bool true) (hS.pick [1, 3]) ?_
  refine K.b 13 rfl (.bool true) (hS.pick [1, 3]) ?_
  refine K.b 14 rfl (.bool true) (hS.pick [1, 3]) ?_
  refine K.p 15 rfl (.pointer (some ⟨r_1, 3, none⟩)) (hS.pick [1, 3]) ?_
  refine K.o_ 16 rfl (.pointer (some ⟨p, 0, none⟩)) (fun w hS => ((hS.blk 0 rfl hg_3).cell rfl)) (hS.pick [1, 3]) ?_
  refine K.p 18 rfl (.pointer (some ⟨r, 0, none⟩)) (hS.pick [1, 3]) ?_
  refine K.p 19 rfl (.pointer (some ⟨r, 0, none⟩)) (hS.pick [1, 3]) ?_
  refine K.p 20 rfl (.pointer (some ⟨r, 11, none⟩)) (hS.pick [1, 3]) ?_
  refine K.o_ 21 rfl (.int .i64 D.holds) (fun w hS => ((hS.blk 1 rfl hgd).cell rfl)) (hS.pick [1, 3]) ?_
  refine K.DW.l 17 rfl (by kernel_rfl) (by kernel_rfl) (K.OW.gcall hS [0] [1, 2, 3, 4] [.pointer (some ⟨p, 0, none⟩)] (recHolds_ok _ _ _ _ ⟨S.t, S.pc, S.now, S.next, S.slot, S.count, S.push⟩ _ hgp) ?_)
  clear hS; rintro _ _ w ⟨rfl, rfl⟩ hS
  replace hS : K.Sat w0 [gp, g_2, gl, gd, fr] w := hS
  refine ⟨.inl (hS.pick [1, 3]), ?_⟩
  refine K.c 22 rfl (K.QR.nice (v := .bool (((recHolds S) : Int) == (D.holds : Int))) (by kernel_rfl) (congrArg Value.bool (beq_iff_eq.2 (hh.symm)))) (hS.pick [1, 3]) ?_
  refine K.b 23 rfl (.bool true) (hS.pick [1, 3]) ?_
  refine K.b 24 rfl (.bool true) (hS.pick [1, 3]) ?_
  refine K.p 25 rfl (.pointer (some ⟨r_1, 3, none⟩)) (hS.pick [1, 3]) ?_
  refine K.o_ 26 rfl (.pointer (some ⟨p, 0, none⟩)) (fun w hS => ((hS.blk 0 rfl hg_3).cell rfl)) (hS.pick [1, 3]) ?_
  refine K.p 28 rfl (.pointer (some ⟨r, 0, none⟩)) (hS.pick [1, 3]) ?_
  refine K.p 29 rfl (.pointer (some ⟨r, 0, none⟩)) (hS.pick [1, 3]) ?_
  refine K.p 30 rfl (.pointer (some ⟨r, 12, none⟩)) (hS.pick [1, 3]) ?_
  refine K.o_ 31 rfl (.int .i64 D.count) (fun w hS => ((hS.blk 1 rfl hgd).cell rfl)) (hS.pick [1, 3]) ?_
  refine K.DW.l 27 rfl (by kernel_rfl) (by kernel_rfl) (K.OW.gcall hS [0] [1, 2, 3, 4] [.pointer (some ⟨p, 0, none⟩)] (recCount_ok _ _ _ _ ⟨S.t, S.pc, S.now, S.next, S.slot, S.count, S.push⟩ _ hgp) ?_)
  clear hS; rintro _ _ w ⟨rfl, rfl⟩ hS
  replace hS : K.Sat w0 [gp, g_2, gl, gd, fr] w := hS
  refine ⟨.inl (hS.pick [1, 3]), ?_⟩
  refine K.c 32 rfl (K.QR.nice (v := .bool ((S.count : Int) == (D.count : Int))) (by kernel_rfl) (congrArg Value.bool (beq_iff_eq.2 (hq.symm)))) (hS.pick [1, 3]) ?_
  refine K.b 33 rfl (.bool true) (hS.pick [1, 3]) ?_
  refine K.b 34 rfl (.bool true) (hS.pick [1, 3]) ?_
  refine K.DW.done (by kernel_rfl) ?_
  refine K.t (K.r ?_)
  refine ⟨.inr rfl, rfl, (.bool true), K.res1 rfl rfl, [gp, gl, gd], ?_, hS.pick [0, 2, 3, 4]⟩
  exact ⟨rfl, rfl⟩
 ·
  replace hS : K.Sat w0 [gp, g_2, gl, gd, fr] w := hS
  replace h_5 : ¬ S.pc = 5 := h_5
  refine K.q [.bool false, .bool false] (K.z (K.t (K.s (K.g (K.q [.int .i64 (-1)] (K.z (K.t (K.s (K.s (K.g (K.q [.pointer (some ⟨r, 0, none⟩), .pointer (some ⟨r, 0, none⟩), .pointer (some ⟨r, 5, none⟩)] ?_)))))))))))
  refine K.d (.int .i64 D.kind) ((hS.blk 3 rfl hgd).cell rfl) ?_
  refine K.xe (D.kind : Int) (0 : Int) (by omega) ?_
  refine K.q [.bool false] (K.n_ (K.n_ (K.n_ (K.n_ (K.n_ (K.q [.bool false] (K.z (K.t (K.f (K.k (K.t (K.s ?_))))))))))))
  refine K.KW.gdrawn [1, 3] hS (by kernel_rfl) ?_
  clear hS; intro w hS
  refine K.p 0 rfl (.bool false) (hS.pick [1, 3]) ?_
  refine K.b 1 rfl (.pointer (some ⟨r, 0, none⟩)) (hS.pick [1, 3]) ?_
  refine K.b 2 rfl (.pointer (some ⟨r, 0, none⟩)) (hS.pick [1, 3]) ?_
  refine K.b 3 rfl (.pointer (some ⟨r, 6, none⟩)) (hS.pick [1, 3]) ?_
  refine K.c 4 rfl (K.QR.ld1 (v := .int .i64 D.line) rfl rfl (by kernel_rfl) ((hS.blk 3 rfl hgd).cell rfl)) (hS.pick [1, 3]) ?_
  refine K.c 5 rfl (K.QR.nice (v := .bool ((D.line : Int) == (0 : Int))) (by kernel_rfl) (congrArg Value.bool (beq_eq_false_iff_ne.2 (by omega)))) (hS.pick [1, 3]) ?_
  refine K.b 6 rfl (.bool true) (hS.pick [1, 3]) ?_
  refine K.b 7 rfl (.bool true) (hS.pick [1, 3]) ?_
  refine K.p 8 rfl (.pointer (some ⟨r_1, 0, none⟩)) (hS.pick [1, 3]) ?_
  refine K.o_ 9 rfl (.pointer none) (fun w hS => ((hS.blk 0 rfl hg_3).cell rfl)) (hS.pick [1, 3]) ?_
  refine K.p 11 rfl (.int .i64 (-1)) (hS.pick [1, 3]) ?_
  refine K.DW.l 10 rfl (by kernel_rfl) (by kernel_rfl) (K.OW.gcall hS [] [0, 1, 2, 3, 4] [.pointer none] (rePlace_nil _ ) ?_)
  clear hS; rintro _ _ w ⟨rfl, rfl⟩ hS
  replace hS : K.Sat w0 [gp, g_2, gl, gd, fr] w := hS
  refine ⟨.inl (hS.pick [1, 3]), ?_⟩
  refine K.b 12 rfl (.bool true) (hS.pick [1, 3]) ?_
  refine K.b 13 rfl (.bool true) (hS.pick [1, 3]) ?_
  refine K.b 14 rfl (.bool true) (hS.pick [1, 3]) ?_
  refine K.p 15 rfl (.pointer (some ⟨r_1, 3, none⟩)) (hS.pick [1, 3]) ?_
  refine K.o_ 16 rfl (.pointer (some ⟨p, 0, none⟩)) (fun w hS => ((hS.blk 0 rfl hg_3).cell rfl)) (hS.pick [1, 3]) ?_
  refine K.p 18 rfl (.pointer (some ⟨r, 0, none⟩)) (hS.pick [1, 3]) ?_
  refine K.p 19 rfl (.pointer (some ⟨r, 0, none⟩)) (hS.pick [1, 3]) ?_
  refine K.p 20 rfl (.pointer (some ⟨r, 11, none⟩)) (hS.pick [1, 3]) ?_
  refine K.o_ 21 rfl (.int .i64 D.holds) (fun w hS => ((hS.blk 1 rfl hgd).cell rfl)) (hS.pick [1, 3]) ?_
  refine K.DW.l 17 rfl (by kernel_rfl) (by kernel_rfl) (K.OW.gcall hS [0] [1, 2, 3, 4] [.pointer (some ⟨p, 0, none⟩)] (recHolds_ok _ _ _ _ ⟨S.t, S.pc, S.now, S.next, S.slot, S.count, S.push⟩ _ hgp) ?_)
  clear hS; rintro _ _ w ⟨rfl, rfl⟩ hS
  replace hS : K.Sat w0 [gp, g_2, gl, gd, fr] w := hS
  refine ⟨.inl (hS.pick [1, 3]), ?_⟩
  refine K.c 22 rfl (K.QR.nice (v := .bool (((recHolds S) : Int) == (D.holds : Int))) (by kernel_rfl) (congrArg Value.bool (beq_iff_eq.2 (hh.symm)))) (hS.pick [1, 3]) ?_
  refine K.b 23 rfl (.bool true) (hS.pick [1, 3]) ?_
  refine K.b 24 rfl (.bool true) (hS.pick [1, 3]) ?_
  refine K.p 25 rfl (.pointer (some ⟨r_1, 3, none⟩)) (hS.pick [1, 3]) ?_
  refine K.o_ 26 rfl (.pointer (some ⟨p, 0, none⟩)) (fun w hS => ((hS.blk 0 rfl hg_3).cell rfl)) (hS.pick [1, 3]) ?_
  refine K.p 28 rfl (.pointer (some ⟨r, 0, none⟩)) (hS.pick [1, 3]) ?_
  refine K.p 29 rfl (.pointer (some ⟨r, 0, none⟩)) (hS.pick [1, 3]) ?_
  refine K.p 30 rfl (.pointer (some ⟨r, 12, none⟩)) (hS.pick [1, 3]) ?_
  refine K.o_ 31 rfl (.int .i64 D.count) (fun w hS => ((hS.blk 1 rfl hgd).cell rfl)) (hS.pick [1, 3]) ?_
  refine K.DW.l 27 rfl (by kernel_rfl) (by kernel_rfl) (K.OW.gcall hS [0] [1, 2, 3, 4] [.pointer (some ⟨p, 0, none⟩)] (recCount_ok _ _ _ _ ⟨S.t, S.pc, S.now, S.next, S.slot, S.count, S.push⟩ _ hgp) ?_)
  clear hS; rintro _ _ w ⟨rfl, rfl⟩ hS
  replace hS : K.Sat w0 [gp, g_2, gl, gd, fr] w := hS
  refine ⟨.inl (hS.pick [1, 3]), ?_⟩
  refine K.c 32 rfl (K.QR.nice (v := .bool ((S.count : Int) == (D.count : Int))) (by kernel_rfl) (congrArg Value.bool (beq_iff_eq.2 (hq.symm)))) (hS.pick [1, 3]) ?_
  refine K.b 33 rfl (.bool true) (hS.pick [1, 3]) ?_
  refine K.b 34 rfl (.bool true) (hS.pick [1, 3]) ?_
  refine K.DW.done (by kernel_rfl) ?_
  refine K.t (K.r ?_)
  refine ⟨.inr rfl, rfl, (.bool true), K.res1 rfl rfl, [gp, gl, gd], ?_, hS.pick [0, 2, 3, 4]⟩
  exact ⟨rfl, rfl⟩
theorem machSame_ok (w0 : World) (b r : Nat) (c : Cfg) (hc : cfgOk c) (x : MachR) (D : DM) (u v w z : Option Addr) (g gl gd : K.Cs) (h : MachEl b x u v w z g) (hgl : gl = layPt b c) (hgd : gd = dmPt r c D) (hx : x.good c) (hr : RelD c x D) :
  K.GC Tryz.prog w0 28 #[.agg #[.pointer u, .pointer v, .pointer w, .pointer z], .pointer (some ⟨r, 0, none⟩)] [g, gl, gd] (fun v post => v = .bool true ∧ post = [g, gl, gd]) := by
 cases x with
 | res S => obtain ⟨p, rfl, rfl, rfl, rfl, hg⟩ := h; exact mach_same_res w0 p b r c hc S D g gl gd hg hgl hgd hx.1 hr
 | can S => obtain ⟨p, rfl, rfl, rfl, rfl, hg⟩ := h; exact mach_same_can w0 p b r c hc S D g gl gd hg hgl hgd hx.1 hr
 | sta S => obtain ⟨p, rfl, rfl, rfl, rfl, hg⟩ := h; exact mach_same_sta w0 p b r c hc S D g gl gd hg hgl hgd hx hr
 | rc S =>
  obtain ⟨p, rfl, rfl, rfl, rfl, hg⟩ := h
  rcases hg with ⟨_, a, rfl⟩ | ⟨_, px, rfl⟩
  ·exact mach_same_rc w0 p b r c hc a S D _ gl gd rfl hgl hgd hx hr
  ·intro fr w hs
   have hs1 : K.Sat w0 [recPt p b (some ⟨px, 0, none⟩) S, pushPt px b S.push, gl, gd, fr] w := hs.of (by simp)
   refine K.KC.mono (mach_same_rc w0 p b r c hc (some ⟨px, 0, none⟩) S D _ gl gd rfl hgl hgd hx hr (pushPt px b S.push ++ fr) w ((hs1.pick [0, 2, 3, 1, 4]).of (by simp [K.pick, K.nth]))) ?_
   rintro v w' ⟨post, ⟨rfl, rfl⟩, hs2⟩
   have hs3 : K.Sat w0 [recPt p b (some ⟨px, 0, none⟩) S, gl, gd, pushPt px b S.push, fr] w' := hs2.of (by simp)
   exact ⟨_, ⟨rfl, rfl⟩, (hs3.pick [0, 3, 1, 2, 4]).of (by simp [K.pick, K.nth])⟩
def newR (k t pl sl : Int) : MachR := if k = 0 then .res ⟨t, 0, sl, 0, 0⟩ else if k = 1 then .can ⟨t, 0, pl⟩ else if k = 2 then .sta ⟨t, 0, pl, sl, 0⟩ else .rc ⟨t, 0, 0, 0, -1, 0, ⟨0, 0, 0, 0⟩⟩
def newD (k t pl sl : Int) : DM := ⟨t, if k = 0 then 0 else if k = 1 then 1 else if k = 2 then 2 else 3, 1, if k = 0 then 0 else if k = 1 then pl else if k = 2 then pl else 0, sl, -1, 0, -1, 0, ⟨0, 0, 0, 0⟩, ⟨0, 0, 0, 0⟩⟩
theorem new_ok {k t pl sl : Int} {c : Cfg} (hc : cfgOk c) (ht : isInt t) (hp : isInt pl) (hs : isInt sl) : (newR k t pl sl).good c ∧ RelD c (newR k t pl sl) (newD k t pl sl) ∧ (newD k t pl sl).ok := by
 have h0 : isInt 0 := by omega
 have hw : isW 0 := by unfold isW; omega
 have hk : (newD k t pl sl).ok := ⟨ht, hs, hw, h0, h0, hw⟩
 unfold cfgOk at hc
 refine ⟨?_, ?_, hk⟩
 ·unfold newR
  split
  ·exact ⟨resInit ht hs, fun _ => (show (0 : Int) < c.lo by omega), fun h => by have h : (0 : Int) = 1 ∨ (0 : Int) = 2 ∨ (0 : Int) = 3 := h; omega⟩
  split
  ·exact ⟨canInit ht hp, .inl rfl⟩
  split
  ·exact ⟨ht, (by decide : (0 : Int) ≤ 0 ∧ (0 : Int) ≤ 5 ∧ ¬ (0 : Int) = 4), hp, hs, hw⟩
  ·exact ⟨ht, hw, (by omega : isInt (-1)), (by omega : (0 : Int) ≤ 0 ∧ (0 : Int) ≤ c.lo), (by omega : (0 : Int) ≤ 0 ∧ (0 : Int) ≤ 0), .inl ⟨rfl, rfl⟩⟩
 ·unfold newR newD
  by_cases h1 : k = 0
  ·subst h1; exact ⟨rfl, rfl, rfl, rfl, rfl, (rePlace_no (by simp)).symm, rfl, rfl⟩
  by_cases h2 : k = 1
  ·subst h2; exact ⟨rfl, rfl, rfl, rfl, rfl, rfl⟩
  by_cases h3 : k = 2
  ·subst h3; exact ⟨rfl, rfl, rfl, rfl, rfl, rfl, rfl, rfl⟩
  rw [if_neg h1, if_neg h2, if_neg h3, if_neg h1, if_neg h2, if_neg h3, if_neg h1, if_neg h2, if_neg h3]
  exact ⟨rfl, rfl, rfl, rfl, rfl, rfl, rfl, fun h => by have h : (0 : Int) = 2 ∨ (0 : Int) = 4 := h; omega, fun h => absurd (show (0 : Int) = 4 from h) (by decide)⟩
set_option maxHeartbeats 1000000 in
set_option maxRecDepth 100000 in
theorem newrec_ok (w0 : World) (b : Nat) (tt : Int) :
  K.GC Tryz.prog w0 15 #[.pointer (some ⟨b, 0, none⟩), .int .i64 tt] [] (fun v post => ∃ p g, v = .pointer (some ⟨p, 0, none⟩) ∧ post = [g] ∧ g = recPt p b none ⟨tt, 0, 0, 0, -1, 0, ⟨0, 0, 0, 0⟩⟩) := by
 refine K.GC.mk (n := 10) Tryz.func15 rfl rfl [.pointer (some ⟨b, 0, none⟩), .int .i64 tt] rfl rfl ?_
 intro fr w hS
 replace hS : K.Sat w0 [fr] w := hS
 refine K.s (K.g (K.q [.pointer none] (K.z (K.t (K.s (K.g (K.q [.pointer (some ⟨b, 0, none⟩), .int .i64 tt] ?_)))))))
 refine K.a (K.QR.bd [(0, .pointer (some ⟨b, 0, none⟩)), (1, .int .i64 tt)] [.pointer (some ⟨b, 0, none⟩), .int .i64 tt, .int .i64 0] rfl rfl (by kernel_rfl)) ?_
 refine K.a (K.QR.bd [(0, .agg #[.pointer (some ⟨b, 0, none⟩), .int .i64 tt, .int .i64 0]), (3, .int .i64 (-1))] [.pointer (some ⟨b, 0, none⟩), .int .i64 tt, .int .i64 0, .int .u64 0, .int .i64 0, .int .i64 (-1), .pointer none, .int .i64 0] rfl rfl (by kernel_rfl)) ?_
 refine K.l (K.OW.gnew 114 [.pointer (some ⟨b, 0, none⟩), .int .i64 tt, .int .i64 0, .int .u64 0, .int .i64 0, .int .i64 (-1), .pointer none, .int .i64 0] hS ?_)
 clear hS; intro w r_1 g_2 hg_3 hS
 refine K.q [.pointer (some ⟨r_1, 0, none⟩)] (K.z (K.t (K.r ?_)))
 refine ⟨.inr rfl, rfl, (.pointer (some ⟨r_1, 0, none⟩)), K.res1 rfl rfl, [g_2], ?_, hS.pick [0, 1]⟩
 exact ⟨_, _, rfl, rfl, hg_3⟩
set_option maxHeartbeats 1000000 in
set_option maxRecDepth 100000 in
theorem made_0 (w0 : World) (b : Nat) (c : Cfg) (hc : cfgOk c) (k tt pl sl : Int) (htt : isInt tt) (hpl : isInt pl) (hsl : isInt sl) (hk : k = 0) :
  K.GC Tryz.prog w0 22 #[.pointer (some ⟨b, 0, none⟩), .agg #[.int .i64 c.th, .int .i64 c.sl, .int .i64 c.lo, .int .i64 c.bu], .agg #[.int .i64 k, .int .i64 tt, .int .i64 pl, .int .i64 sl]] [] (fun v post => ∃ u v1 w z r g g2, v = .tuple #[.agg #[.pointer u, .pointer v1, .pointer w, .pointer z], .pointer (some ⟨r, 0, none⟩)] ∧ post = [g, g2] ∧ MachEl b (.res ⟨tt, 0, sl, 0, 0⟩) u v1 w z g ∧ g2 = dmPt r c ⟨tt, k, 1, 0, sl, -1, 0, -1, 0, ⟨0, 0, 0, 0⟩, ⟨0, 0, 0, 0⟩⟩) := by
 refine K.GC.mk (n := 71) Tryz.func22 rfl rfl [.pointer (some ⟨b, 0, none⟩), .agg #[.int .i64 c.th, .int .i64 c.sl, .int .i64 c.lo, .int .i64 c.bu], .agg #[.int .i64 k, .int .i64 tt, .int .i64 pl, .int .i64 sl]] rfl rfl ?_
 intro fr w hS
 replace hS : K.Sat w0 [fr] w := hS
 refine K.s (K.g ?_)
 refine K.l (K.OW.gnew 23 [.int .i64 c.th, .int .i64 c.sl, .int .i64 c.lo, .int .i64 c.bu] hS ?_)
 clear hS; intro w r_1 g_2 hg_3 hS
 refine K.l (K.OW.gnew 54 [.int .i64 k, .int .i64 tt, .int .i64 pl, .int .i64 sl] hS ?_)
 clear hS; intro w r_4 g_5 hg_6 hS
 refine K.l (K.OW.gnew 58 [.pointer none, .pointer none, .pointer none, .pointer none] hS ?_)
 clear hS; intro w r_7 g_8 hg_9 hS
 refine K.q [.pointer none] (K.z (K.t (K.s (K.g ?_))))
 refine K.a (K.QR.ldN [.int .i64 c.th, .int .i64 c.sl, .int .i64 c.lo, .int .i64 c.bu] rfl rfl (by kernel_rfl) (by kernel_rfl) (K.cells (K.cl ((hS.blk 2 rfl hg_3).cell rfl) (K.cl ((hS.blk 2 rfl hg_3).cell rfl) (K.cl ((hS.blk 2 rfl hg_3).cell rfl) (K.cl ((hS.blk 2 rfl hg_3).cell rfl) K.cl0)))))) ?_
 refine K.q [.pointer (some ⟨r_4, 1, none⟩)] ?_
 refine K.d (.int .i64 tt) ((hS.blk 1 rfl hg_6).cell rfl) ?_
 refine K.q [.pointer (some ⟨r_4, 0, none⟩)] ?_
 refine K.d (.int .i64 k) ((hS.blk 1 rfl hg_6).cell rfl) ?_
 refine K.q [.pointer (some ⟨r_4, 3, none⟩)] ?_
 refine K.d (.int .i64 sl) ((hS.blk 1 rfl hg_6).cell rfl) ?_
 refine K.a (K.QR.bd [(0, .agg #[.int .i64 c.th, .int .i64 c.sl, .int .i64 c.lo, .int .i64 c.bu]), (1, .int .i64 tt), (2, .int .i64 k), (3, .int .i64 1), (5, .int .i64 sl), (6, .int .i64 (-1)), (8, .int .i64 (-1))] [.int .i64 c.th, .int .i64 c.sl, .int .i64 c.lo, .int .i64 c.bu, .int .i64 tt, .int .i64 k, .int .i64 1, .int .i64 0, .int .i64 sl, .int .i64 (-1), .int .u64 0, .int .i64 (-1), .int .i64 0, .int .i64 0, .int .i64 0, .int .i64 0, .int .i64 0, .int .i64 0, .int .i64 0, .int .u64 0, .int .i64 0] rfl rfl (by kernel_rfl)) ?_
 refine K.l (K.OW.gnew 70 [.int .i64 c.th, .int .i64 c.sl, .int .i64 c.lo, .int .i64 c.bu, .int .i64 tt, .int .i64 k, .int .i64 1, .int .i64 0, .int .i64 sl, .int .i64 (-1), .int .u64 0, .int .i64 (-1), .int .i64 0, .int .i64 0, .int .i64 0, .int .i64 0, .int .i64 0, .int .i64 0, .int .i64 0, .int .u64 0, .int .i64 0] hS ?_)
 clear hS; intro w r_10 g_11 hg_12 hS
 refine K.q [.pointer (some ⟨r_10, 0, none⟩)] (K.z (K.t (K.s (K.s (K.g (K.q [.pointer (some ⟨r_4, 0, none⟩)] ?_))))))
 refine K.d (.int .i64 k) ((hS.blk 2 rfl hg_6).cell rfl) ?_
 refine K.z (K.t ?_)
 refine K.KW.block ?_
 refine K.s (K.g ?_)
 refine K.ye (k : Int) (0 : Int) (by omega) ?_
 refine K.q [.bool true] (K.z (K.t (K.h (K.s (K.g (K.q [.pointer (some ⟨b, 0, none⟩), .pointer (some ⟨r_4, 1, none⟩)] ?_))))))
 refine K.d (.int .i64 tt) ((hS.blk 2 rfl hg_6).cell rfl) ?_
 refine K.q [.pointer (some ⟨r_4, 3, none⟩)] ?_
 refine K.d (.int .i64 sl) ((hS.blk 2 rfl hg_6).cell rfl) ?_
 refine K.l (K.OW.gcall hS [] [0, 1, 2, 3, 4] [.pointer (some ⟨b, 0, none⟩), .int .i64 tt, .int .i64 sl] (newre_ok _ b tt sl) ?_)
 clear hS; rintro _ _ w ⟨p_13, g_14, rfl, rfl, h_15⟩ hS
 replace hS : K.Sat w0 [g_14, g_11, g_8, g_5, g_2, fr] w := hS
 have hS_16 : ResS.good ⟨tt, 0, sl, 0, 0⟩ := resInit (by omega) (by omega)
 refine K.a (K.QR.bd [(0, .pointer (some ⟨p_13, 0, none⟩))] [.pointer (some ⟨p_13, 0, none⟩), .pointer none, .pointer none, .pointer none] rfl rfl (by kernel_rfl)) ?_
 refine K.q [.pointer (some ⟨r_10, 0, none⟩)] ?_
 refine K.l (K.OW.gst 2 [.pointer (some ⟨p_13, 0, none⟩), .pointer none, .pointer none, .pointer none] _ hS hg_9 ?_)
 clear hS; intro w g_17 hg_18 hS
 replace hS : K.Sat w0 [g_14, g_11, g_17, g_5, g_2, fr] w := hS
 refine K.q [.pointer (some ⟨r_10, 0, none⟩)] (K.z (K.t (K.r ?_)))
 refine K.blk_ret ?_
 refine K.u ?_
 refine ⟨.inr rfl, rfl, (.tuple #[.agg #[.pointer (some ⟨p_13, 0, none⟩), .pointer none, .pointer none, .pointer none], .pointer (some ⟨r_10, 0, none⟩)]), K.resAt (rs := [.cell 6 58, .tmp 7]) [.agg #[.pointer (some ⟨p_13, 0, none⟩), .pointer none, .pointer none, .pointer none], .pointer (some ⟨r_10, 0, none⟩)] rfl ⟨⟨_, rfl, K.lvN [.pointer (some ⟨p_13, 0, none⟩), .pointer none, .pointer none, .pointer none] (by kernel_rfl) (by kernel_rfl) (K.cells (K.cl ((hS.blk 2 rfl hg_18).cell rfl) (K.cl ((hS.blk 2 rfl hg_18).cell rfl) (K.cl ((hS.blk 2 rfl hg_18).cell rfl) (K.cl ((hS.blk 2 rfl hg_18).cell rfl) K.cl0)))))⟩, rfl, trivial⟩, [g_14, g_11], ?_, hS.pick [0, 1, 5]⟩
 exact ⟨_, _, _, _, _, _, _, rfl, rfl, ⟨_, rfl, rfl, rfl, rfl, h_15⟩, hg_12⟩
set_option maxHeartbeats 1000000 in
set_option maxRecDepth 100000 in
theorem made_1 (w0 : World) (b : Nat) (c : Cfg) (hc : cfgOk c) (k tt pl sl : Int) (htt : isInt tt) (hpl : isInt pl) (hsl : isInt sl) (hk : k = 1) :
  K.GC Tryz.prog w0 22 #[.pointer (some ⟨b, 0, none⟩), .agg #[.int .i64 c.th, .int .i64 c.sl, .int .i64 c.lo, .int .i64 c.bu], .agg #[.int .i64 k, .int .i64 tt, .int .i64 pl, .int .i64 sl]] [] (fun v post => ∃ u v1 w z r g g2, v = .tuple #[.agg #[.pointer u, .pointer v1, .pointer w, .pointer z], .pointer (some ⟨r, 0, none⟩)] ∧ post = [g, g2] ∧ MachEl b (.can ⟨tt, 0, pl⟩) u v1 w z g ∧ g2 = dmPt r c ⟨tt, k, 1, pl, sl, -1, 0, -1, 0, ⟨0, 0, 0, 0⟩, ⟨0, 0, 0, 0⟩⟩) := by
 refine K.GC.mk (n := 71) Tryz.func22 rfl rfl [.pointer (some ⟨b, 0, none⟩), .agg #[.int .i64 c.th, .int .i64 c.sl, .int .i64 c.lo, .int .i64 c.bu], .agg #[.int .i64 k, .int .i64 tt, .int .i64 pl, .int .i64 sl]] rfl rfl ?_
 intro fr w hS
 replace hS : K.Sat w0 [fr] w := hS
 refine K.s (K.g ?_)
 refine K.l (K.OW.gnew 23 [.int .i64 c.th, .int .i64 c.sl, .int .i64 c.lo, .int .i64 c.bu] hS ?_)
 clear hS; intro w r_1 g_2 hg_3 hS
 refine K.l (K.OW.gnew 54 [.int .i64 k, .int .i64 tt, .int .i64 pl, .int .i64 sl] hS ?_)
 clear hS; intro w r_4 g_5 hg_6 hS
 refine K.l (K.OW.gnew 58 [.pointer none, .pointer none, .pointer none, .pointer none] hS ?_)
 clear hS; intro w r_7 g_8 hg_9 hS
 refine K.q [.pointer none] (K.z (K.t (K.s (K.g ?_))))
 refine K.a (K.QR.ldN [.int .i64 c.th, .int .i64 c.sl, .int .i64 c.lo, .int .i64 c.bu] rfl rfl (by kernel_rfl) (by kernel_rfl) (K.cells (K.cl ((hS.blk 2 rfl hg_3).cell rfl) (K.cl ((hS.blk 2 rfl hg_3).cell rfl) (K.cl ((hS.blk 2 rfl hg_3).cell rfl) (K.cl ((hS.blk 2 rfl hg_3).cell rfl) K.cl0)))))) ?_
 refine K.q [.pointer (some ⟨r_4, 1, none⟩)] ?_
 refine K.d (.int .i64 tt) ((hS.blk 1 rfl hg_6).cell rfl) ?_
 refine K.q [.pointer (some ⟨r_4, 0, none⟩)] ?_
 refine K.d (.int .i64 k) ((hS.blk 1 rfl hg_6).cell rfl) ?_
 refine K.q [.pointer (some ⟨r_4, 3, none⟩)] ?_
 refine K.d (.int .i64 sl) ((hS.blk 1 rfl hg_6).cell rfl) ?_
 refine K.a (K.QR.bd [(0, .agg #[.int .i64 c.th, .int .i64 c.sl, .int .i64 c.lo, .int .i64 c.bu]), (1, .int .i64 tt), (2, .int .i64 k), (3, .int .i64 1), (5, .int .i64 sl), (6, .int .i64 (-1)), (8, .int .i64 (-1))] [.int .i64 c.th, .int .i64 c.sl, .int .i64 c.lo, .int .i64 c.bu, .int .i64 tt, .int .i64 k, .int .i64 1, .int .i64 0, .int .i64 sl, .int .i64 (-1), .int .u64 0, .int .i64 (-1), .int .i64 0, .int .i64 0, .int .i64 0, .int .i64 0, .int .i64 0, .int .i64 0, .int .i64 0, .int .u64 0, .int .i64 0] rfl rfl (by kernel_rfl)) ?_
 refine K.l (K.OW.gnew 70 [.int .i64 c.th, .int .i64 c.sl, .int .i64 c.lo, .int .i64 c.bu, .int .i64 tt, .int .i64 k, .int .i64 1, .int .i64 0, .int .i64 sl, .int .i64 (-1), .int .u64 0, .int .i64 (-1), .int .i64 0, .int .i64 0, .int .i64 0, .int .i64 0, .int .i64 0, .int .i64 0, .int .i64 0, .int .u64 0, .int .i64 0] hS ?_)
 clear hS; intro w r_10 g_11 hg_12 hS
 refine K.q [.pointer (some ⟨r_10, 0, none⟩)] (K.z (K.t (K.s (K.s (K.g (K.q [.pointer (some ⟨r_4, 0, none⟩)] ?_))))))
 refine K.d (.int .i64 k) ((hS.blk 2 rfl hg_6).cell rfl) ?_
 refine K.z (K.t ?_)
 refine K.KW.block ?_
 refine K.s (K.g ?_)
 refine K.xe (k : Int) (0 : Int) (by omega) ?_
 refine K.q [.bool false] (K.z (K.t (K.f (K.s (K.g ?_)))))
 refine K.ye (k : Int) (1 : Int) (by omega) ?_
 refine K.q [.bool true] (K.z (K.t (K.h (K.s (K.g (K.q [.pointer (some ⟨r_10, 0, none⟩), .pointer (some ⟨r_4, 2, none⟩)] ?_))))))
 refine K.d (.int .i64 pl) ((hS.blk 2 rfl hg_6).cell rfl) ?_
 refine K.q [.pointer (some ⟨r_10, 0, none⟩), .pointer (some ⟨r_10, 7, none⟩)] ?_
 refine K.l (K.OW.gst 0 [.int .i64 pl] _ hS hg_12 ?_)
 clear hS; intro w g_13 hg_14 hS
 replace hS : K.Sat w0 [g_13, g_8, g_5, g_2, fr] w := hS
 refine K.z (K.t (K.s (K.g (K.q [.pointer (some ⟨b, 0, none⟩), .pointer (some ⟨r_4, 1, none⟩)] ?_))))
 refine K.d (.int .i64 tt) ((hS.blk 2 rfl hg_6).cell rfl) ?_
 refine K.q [.pointer (some ⟨r_4, 2, none⟩)] ?_
 refine K.d (.int .i64 pl) ((hS.blk 2 rfl hg_6).cell rfl) ?_
 refine K.l (K.OW.gcall hS [] [0, 1, 2, 3, 4] [.pointer (some ⟨b, 0, none⟩), .int .i64 tt, .int .i64 pl] (newcan_ok _ b tt pl) ?_)
 clear hS; rintro _ _ w ⟨p_15, g_16, rfl, rfl, h_17⟩ hS
 replace hS : K.Sat w0 [g_16, g_13, g_8, g_5, g_2, fr] w := hS
 have hS_18 : CanS.good ⟨tt, 0, pl⟩ := canInit (by omega) (by omega)
 refine K.a (K.QR.bd [(1, .pointer (some ⟨p_15, 0, none⟩))] [.pointer none, .pointer (some ⟨p_15, 0, none⟩), .pointer none, .pointer none] rfl rfl (by kernel_rfl)) ?_
 refine K.q [.pointer (some ⟨r_10, 0, none⟩)] ?_
 refine K.l (K.OW.gst 2 [.pointer none, .pointer (some ⟨p_15, 0, none⟩), .pointer none, .pointer none] _ hS hg_9 ?_)
 clear hS; intro w g_19 hg_20 hS
 replace hS : K.Sat w0 [g_16, g_13, g_19, g_5, g_2, fr] w := hS
 refine K.q [.pointer (some ⟨r_10, 0, none⟩)] (K.z (K.t (K.r ?_)))
 refine K.blk_ret ?_
 refine K.u ?_
 refine ⟨.inr rfl, rfl, (.tuple #[.agg #[.pointer none, .pointer (some ⟨p_15, 0, none⟩), .pointer none, .pointer none], .pointer (some ⟨r_10, 0, none⟩)]), K.resAt (rs := [.cell 6 58, .tmp 7]) [.agg #[.pointer none, .pointer (some ⟨p_15, 0, none⟩), .pointer none, .pointer none], .pointer (some ⟨r_10, 0, none⟩)] rfl ⟨⟨_, rfl, K.lvN [.pointer none, .pointer (some ⟨p_15, 0, none⟩), .pointer none, .pointer none] (by kernel_rfl) (by kernel_rfl) (K.cells (K.cl ((hS.blk 2 rfl hg_20).cell rfl) (K.cl ((hS.blk 2 rfl hg_20).cell rfl) (K.cl ((hS.blk 2 rfl hg_20).cell rfl) (K.cl ((hS.blk 2 rfl hg_20).cell rfl) K.cl0)))))⟩, rfl, trivial⟩, [g_16, g_13], ?_, hS.pick [0, 1, 5]⟩
 exact ⟨_, _, _, _, _, _, _, rfl, rfl, ⟨_, rfl, rfl, rfl, rfl, h_17⟩, hg_14⟩
set_option maxHeartbeats 1000000 in
set_option maxRecDepth 100000 in
theorem made_2 (w0 : World) (b : Nat) (c : Cfg) (hc : cfgOk c) (k tt pl sl : Int) (htt : isInt tt) (hpl : isInt pl) (hsl : isInt sl) (hk : k = 2) :
  K.GC Tryz.prog w0 22 #[.pointer (some ⟨b, 0, none⟩), .agg #[.int .i64 c.th, .int .i64 c.sl, .int .i64 c.lo, .int .i64 c.bu], .agg #[.int .i64 k, .int .i64 tt, .int .i64 pl, .int .i64 sl]] [] (fun v post => ∃ u v1 w z r g g2, v = .tuple #[.agg #[.pointer u, .pointer v1, .pointer w, .pointer z], .pointer (some ⟨r, 0, none⟩)] ∧ post = [g, g2] ∧ MachEl b (.sta ⟨tt, 0, pl, sl, 0⟩) u v1 w z g ∧ g2 = dmPt r c ⟨tt, k, 1, pl, sl, -1, 0, -1, 0, ⟨0, 0, 0, 0⟩, ⟨0, 0, 0, 0⟩⟩) := by
 refine K.GC.mk (n := 71) Tryz.func22 rfl rfl [.pointer (some ⟨b, 0, none⟩), .agg #[.int .i64 c.th, .int .i64 c.sl, .int .i64 c.lo, .int .i64 c.bu], .agg #[.int .i64 k, .int .i64 tt, .int .i64 pl, .int .i64 sl]] rfl rfl ?_
 intro fr w hS
 replace hS : K.Sat w0 [fr] w := hS
 refine K.s (K.g ?_)
 refine K.l (K.OW.gnew 23 [.int .i64 c.th, .int .i64 c.sl, .int .i64 c.lo, .int .i64 c.bu] hS ?_)
 clear hS; intro w r_1 g_2 hg_3 hS
 refine K.l (K.OW.gnew 54 [.int .i64 k, .int .i64 tt, .int .i64 pl, .int .i64 sl] hS ?_)
 clear hS; intro w r_4 g_5 hg_6 hS
 refine K.l (K.OW.gnew 58 [.pointer none, .pointer none, .pointer none, .pointer none] hS ?_)
 clear hS; intro w r_7 g_8 hg_9 hS
 refine K.q [.pointer none] (K.z (K.t (K.s (K.g ?_))))
 refine K.a (K.QR.ldN [.int .i64 c.th, .int .i64 c.sl, .int .i64 c.lo, .int .i64 c.bu] rfl rfl (by kernel_rfl) (by kernel_rfl) (K.cells (K.cl ((hS.blk 2 rfl hg_3).cell rfl) (K.cl ((hS.blk 2 rfl hg_3).cell rfl) (K.cl ((hS.blk 2 rfl hg_3).cell rfl) (K.cl ((hS.blk 2 rfl hg_3).cell rfl) K.cl0)))))) ?_
 refine K.q [.pointer (some ⟨r_4, 1, none⟩)] ?_
 refine K.d (.int .i64 tt) ((hS.blk 1 rfl hg_6).cell rfl) ?_
 refine K.q [.pointer (some ⟨r_4, 0, none⟩)] ?_
 refine K.d (.int .i64 k) ((hS.blk 1 rfl hg_6).cell rfl) ?_
 refine K.q [.pointer (some ⟨r_4, 3, none⟩)] ?_
 refine K.d (.int .i64 sl) ((hS.blk 1 rfl hg_6).cell rfl) ?_
 refine K.a (K.QR.bd [(0, .agg #[.int .i64 c.th, .int .i64 c.sl, .int .i64 c.lo, .int .i64 c.bu]), (1, .int .i64 tt), (2, .int .i64 k), (3, .int .i64 1), (5, .int .i64 sl), (6, .int .i64 (-1)), (8, .int .i64 (-1))] [.int .i64 c.th, .int .i64 c.sl, .int .i64 c.lo, .int .i64 c.bu, .int .i64 tt, .int .i64 k, .int .i64 1, .int .i64 0, .int .i64 sl, .int .i64 (-1), .int .u64 0, .int .i64 (-1), .int .i64 0, .int .i64 0, .int .i64 0, .int .i64 0, .int .i64 0, .int .i64 0, .int .i64 0, .int .u64 0, .int .i64 0] rfl rfl (by kernel_rfl)) ?_
 refine K.l (K.OW.gnew 70 [.int .i64 c.th, .int .i64 c.sl, .int .i64 c.lo, .int .i64 c.bu, .int .i64 tt, .int .i64 k, .int .i64 1, .int .i64 0, .int .i64 sl, .int .i64 (-1), .int .u64 0, .int .i64 (-1), .int .i64 0, .int .i64 0, .int .i64 0, .int .i64 0, .int .i64 0, .int .i64 0, .int .i64 0, .int .u64 0, .int .i64 0] hS ?_)
 clear hS; intro w r_10 g_11 hg_12 hS
 refine K.q [.pointer (some ⟨r_10, 0, none⟩)] (K.z (K.t (K.s (K.s (K.g (K.q [.pointer (some ⟨r_4, 0, none⟩)] ?_))))))
 refine K.d (.int .i64 k) ((hS.blk 2 rfl hg_6).cell rfl) ?_
 refine K.z (K.t ?_)
 refine K.KW.block ?_
 refine K.s (K.g ?_)
 refine K.xe (k : Int) (0 : Int) (by omega) ?_
 refine K.q [.bool false] (K.z (K.t (K.f (K.s (K.g ?_)))))
 refine K.xe (k : Int) (1 : Int) (by omega) ?_
 refine K.q [.bool false] (K.z (K.t (K.f (K.s (K.g ?_)))))
 refine K.ye (k : Int) (2 : Int) (by omega) ?_
 refine K.q [.bool true] (K.z (K.t (K.h (K.s (K.g (K.q [.pointer (some ⟨r_10, 0, none⟩), .pointer (some ⟨r_4, 2, none⟩)] ?_))))))
 refine K.d (.int .i64 pl) ((hS.blk 2 rfl hg_6).cell rfl) ?_
 refine K.q [.pointer (some ⟨r_10, 0, none⟩), .pointer (some ⟨r_10, 7, none⟩)] ?_
 refine K.l (K.OW.gst 0 [.int .i64 pl] _ hS hg_12 ?_)
 clear hS; intro w g_13 hg_14 hS
 replace hS : K.Sat w0 [g_13, g_8, g_5, g_2, fr] w := hS
 refine K.z (K.t (K.s (K.g (K.q [.pointer (some ⟨b, 0, none⟩), .pointer (some ⟨r_4, 1, none⟩)] ?_))))
 refine K.d (.int .i64 tt) ((hS.blk 2 rfl hg_6).cell rfl) ?_
 refine K.q [.pointer (some ⟨r_4, 2, none⟩)] ?_
 refine K.d (.int .i64 pl) ((hS.blk 2 rfl hg_6).cell rfl) ?_
 refine K.q [.pointer (some ⟨r_4, 3, none⟩)] ?_
 refine K.d (.int .i64 sl) ((hS.blk 2 rfl hg_6).cell rfl) ?_
 refine K.l (K.OW.gcall hS [] [0, 1, 2, 3, 4] [.pointer (some ⟨b, 0, none⟩), .int .i64 tt, .int .i64 pl, .int .i64 sl] (newsta_ok _ b tt pl sl) ?_)
 clear hS; rintro _ _ w ⟨p_15, g_16, rfl, rfl, h_17⟩ hS
 replace hS : K.Sat w0 [g_16, g_13, g_8, g_5, g_2, fr] w := hS
 refine K.a (K.QR.bd [(2, .pointer (some ⟨p_15, 0, none⟩))] [.pointer none, .pointer none, .pointer (some ⟨p_15, 0, none⟩), .pointer none] rfl rfl (by kernel_rfl)) ?_
 refine K.q [.pointer (some ⟨r_10, 0, none⟩)] ?_
 refine K.l (K.OW.gst 2 [.pointer none, .pointer none, .pointer (some ⟨p_15, 0, none⟩), .pointer none] _ hS hg_9 ?_)
 clear hS; intro w g_18 hg_19 hS
 replace hS : K.Sat w0 [g_16, g_13, g_18, g_5, g_2, fr] w := hS
 refine K.q [.pointer (some ⟨r_10, 0, none⟩)] (K.z (K.t (K.r ?_)))
 refine K.blk_ret ?_
 refine K.u ?_
 refine ⟨.inr rfl, rfl, (.tuple #[.agg #[.pointer none, .pointer none, .pointer (some ⟨p_15, 0, none⟩), .pointer none], .pointer (some ⟨r_10, 0, none⟩)]), K.resAt (rs := [.cell 6 58, .tmp 7]) [.agg #[.pointer none, .pointer none, .pointer (some ⟨p_15, 0, none⟩), .pointer none], .pointer (some ⟨r_10, 0, none⟩)] rfl ⟨⟨_, rfl, K.lvN [.pointer none, .pointer none, .pointer (some ⟨p_15, 0, none⟩), .pointer none] (by kernel_rfl) (by kernel_rfl) (K.cells (K.cl ((hS.blk 2 rfl hg_19).cell rfl) (K.cl ((hS.blk 2 rfl hg_19).cell rfl) (K.cl ((hS.blk 2 rfl hg_19).cell rfl) (K.cl ((hS.blk 2 rfl hg_19).cell rfl) K.cl0)))))⟩, rfl, trivial⟩, [g_16, g_13], ?_, hS.pick [0, 1, 5]⟩
 exact ⟨_, _, _, _, _, _, _, rfl, rfl, ⟨_, rfl, rfl, rfl, rfl, h_17⟩, hg_14⟩
set_option maxHeartbeats 1000000 in
set_option maxRecDepth 100000 in
theorem made_3 (w0 : World) (b : Nat) (c : Cfg) (hc : cfgOk c) (k tt pl sl : Int) (htt : isInt tt) (hpl : isInt pl) (hsl : isInt sl) (hk : ¬ k = 0 ∧ ¬ k = 1 ∧ ¬ k = 2) :
  K.GC Tryz.prog w0 22 #[.pointer (some ⟨b, 0, none⟩), .agg #[.int .i64 c.th, .int .i64 c.sl, .int .i64 c.lo, .int .i64 c.bu], .agg #[.int .i64 k, .int .i64 tt, .int .i64 pl, .int .i64 sl]] [] (fun v post => ∃ u v1 w z r g g2, v = .tuple #[.agg #[.pointer u, .pointer v1, .pointer w, .pointer z], .pointer (some ⟨r, 0, none⟩)] ∧ post = [g, g2] ∧ MachEl b (.rc ⟨tt, 0, 0, 0, -1, 0, ⟨0, 0, 0, 0⟩⟩) u v1 w z g ∧ g2 = dmPt r c ⟨tt, 3, 1, 0, sl, -1, 0, -1, 0, ⟨0, 0, 0, 0⟩, ⟨0, 0, 0, 0⟩⟩) := by
 refine K.GC.mk (n := 71) Tryz.func22 rfl rfl [.pointer (some ⟨b, 0, none⟩), .agg #[.int .i64 c.th, .int .i64 c.sl, .int .i64 c.lo, .int .i64 c.bu], .agg #[.int .i64 k, .int .i64 tt, .int .i64 pl, .int .i64 sl]] rfl rfl ?_
 intro fr w hS
 replace hS : K.Sat w0 [fr] w := hS
 refine K.s (K.g ?_)
 refine K.l (K.OW.gnew 23 [.int .i64 c.th, .int .i64 c.sl, .int .i64 c.lo, .int .i64 c.bu] hS ?_)
 clear hS; intro w r_1 g_2 hg_3 hS
 refine K.l (K.OW.gnew 54 [.int .i64 k, .int .i64 tt, .int .i64 pl, .int .i64 sl] hS ?_)
 clear hS; intro w r_4 g_5 hg_6 hS
 refine K.l (K.OW.gnew 58 [.pointer none, .pointer none, .pointer none, .pointer none] hS ?_)
 clear hS; intro w r_7 g_8 hg_9 hS
 refine K.q [.pointer none] (K.z (K.t (K.s (K.g ?_))))
 refine K.a (K.QR.ldN [.int .i64 c.th, .int .i64 c.sl, .int .i64 c.lo, .int .i64 c.bu] rfl rfl (by kernel_rfl) (by kernel_rfl) (K.cells (K.cl ((hS.blk 2 rfl hg_3).cell rfl) (K.cl ((hS.blk 2 rfl hg_3).cell rfl) (K.cl ((hS.blk 2 rfl hg_3).cell rfl) (K.cl ((hS.blk 2 rfl hg_3).cell rfl) K.cl0)))))) ?_
 refine K.q [.pointer (some ⟨r_4, 1, none⟩)] ?_
 refine K.d (.int .i64 tt) ((hS.blk 1 rfl hg_6).cell rfl) ?_
 refine K.q [.pointer (some ⟨r_4, 0, none⟩)] ?_
 refine K.d (.int .i64 k) ((hS.blk 1 rfl hg_6).cell rfl) ?_
 refine K.q [.pointer (some ⟨r_4, 3, none⟩)] ?_
 refine K.d (.int .i64 sl) ((hS.blk 1 rfl hg_6).cell rfl) ?_
 refine K.a (K.QR.bd [(0, .agg #[.int .i64 c.th, .int .i64 c.sl, .int .i64 c.lo, .int .i64 c.bu]), (1, .int .i64 tt), (2, .int .i64 k), (3, .int .i64 1), (5, .int .i64 sl), (6, .int .i64 (-1)), (8, .int .i64 (-1))] [.int .i64 c.th, .int .i64 c.sl, .int .i64 c.lo, .int .i64 c.bu, .int .i64 tt, .int .i64 k, .int .i64 1, .int .i64 0, .int .i64 sl, .int .i64 (-1), .int .u64 0, .int .i64 (-1), .int .i64 0, .int .i64 0, .int .i64 0, .int .i64 0, .int .i64 0, .int .i64 0, .int .i64 0, .int .u64 0, .int .i64 0] rfl rfl (by kernel_rfl)) ?_
 refine K.l (K.OW.gnew 70 [.int .i64 c.th, .int .i64 c.sl, .int .i64 c.lo, .int .i64 c.bu, .int .i64 tt, .int .i64 k, .int .i64 1, .int .i64 0, .int .i64 sl, .int .i64 (-1), .int .u64 0, .int .i64 (-1), .int .i64 0, .int .i64 0, .int .i64 0, .int .i64 0, .int .i64 0, .int .i64 0, .int .i64 0, .int .u64 0, .int .i64 0] hS ?_)
 clear hS; intro w r_10 g_11 hg_12 hS
 refine K.q [.pointer (some ⟨r_10, 0, none⟩)] (K.z (K.t (K.s (K.s (K.g (K.q [.pointer (some ⟨r_4, 0, none⟩)] ?_))))))
 refine K.d (.int .i64 k) ((hS.blk 2 rfl hg_6).cell rfl) ?_
 refine K.z (K.t ?_)
 refine K.KW.block ?_
 refine K.s (K.g ?_)
 refine K.xe (k : Int) (0 : Int) (by omega) ?_
 refine K.q [.bool false] (K.z (K.t (K.f (K.s (K.g ?_)))))
 refine K.xe (k : Int) (1 : Int) (by omega) ?_
 refine K.q [.bool false] (K.z (K.t (K.f (K.s (K.g ?_)))))
 refine K.xe (k : Int) (2 : Int) (by omega) ?_
 refine K.q [.bool false] (K.z (K.t (K.f (K.k ?_))))
 refine K.blk_normal ?_
 refine K.t (K.s (K.g (K.q [.pointer (some ⟨r_10, 0, none⟩), .pointer (some ⟨r_10, 0, none⟩), .pointer (some ⟨r_10, 5, none⟩)] ?_)))
 refine K.l (K.OW.gst 0 [.int .i64 3] _ hS hg_12 ?_)
 clear hS; intro w g_13 hg_14 hS
 replace hS : K.Sat w0 [g_13, g_8, g_5, g_2, fr] w := hS
 refine K.z (K.t (K.s (K.g (K.q [.pointer (some ⟨b, 0, none⟩), .pointer (some ⟨r_4, 1, none⟩)] ?_))))
 refine K.d (.int .i64 tt) ((hS.blk 2 rfl hg_6).cell rfl) ?_
 refine K.l (K.OW.gcall hS [] [0, 1, 2, 3, 4] [.pointer (some ⟨b, 0, none⟩), .int .i64 tt] (newrec_ok _ b tt) ?_)
 clear hS; rintro _ _ w ⟨p_15, g_16, rfl, rfl, h_17⟩ hS
 replace hS : K.Sat w0 [g_16, g_13, g_8, g_5, g_2, fr] w := hS
 refine K.a (K.QR.bd [(3, .pointer (some ⟨p_15, 0, none⟩))] [.pointer none, .pointer none, .pointer none, .pointer (some ⟨p_15, 0, none⟩)] rfl rfl (by kernel_rfl)) ?_
 refine K.q [.pointer (some ⟨r_10, 0, none⟩)] ?_
 refine K.l (K.OW.gst 2 [.pointer none, .pointer none, .pointer none, .pointer (some ⟨p_15, 0, none⟩)] _ hS hg_9 ?_)
 clear hS; intro w g_18 hg_19 hS
 replace hS : K.Sat w0 [g_16, g_13, g_18, g_5, g_2, fr] w := hS
 refine K.q [.pointer (some ⟨r_10, 0, none⟩)] (K.z (K.t (K.r ?_)))
 refine ⟨.inr rfl, rfl, (.tuple #[.agg #[.pointer none, .pointer none, .pointer none, .pointer (some ⟨p_15, 0, none⟩)], .pointer (some ⟨r_10, 0, none⟩)]), K.resAt (rs := [.cell 6 58, .tmp 7]) [.agg #[.pointer none, .pointer none, .pointer none, .pointer (some ⟨p_15, 0, none⟩)], .pointer (some ⟨r_10, 0, none⟩)] rfl ⟨⟨_, rfl, K.lvN [.pointer none, .pointer none, .pointer none, .pointer (some ⟨p_15, 0, none⟩)] (by kernel_rfl) (by kernel_rfl) (K.cells (K.cl ((hS.blk 2 rfl hg_19).cell rfl) (K.cl ((hS.blk 2 rfl hg_19).cell rfl) (K.cl ((hS.blk 2 rfl hg_19).cell rfl) (K.cl ((hS.blk 2 rfl hg_19).cell rfl) K.cl0)))))⟩, rfl, trivial⟩, [g_16, g_13], ?_, hS.pick [0, 1, 5]⟩
 exact ⟨_, _, _, _, _, _, _, rfl, rfl, ⟨_, rfl, rfl, rfl, rfl, (.inl ⟨by simp, _, h_17⟩)⟩, hg_14⟩
theorem made_ok (w0 : World) (b : Nat) (c : Cfg) (hc : cfgOk c) (k tt pl sl : Int) (htt : isInt tt) (hpl : isInt pl) (hsl : isInt sl) :
  K.GC Tryz.prog w0 22 #[.pointer (some ⟨b, 0, none⟩), .agg #[.int .i64 c.th, .int .i64 c.sl, .int .i64 c.lo, .int .i64 c.bu], .agg #[.int .i64 k, .int .i64 tt, .int .i64 pl, .int .i64 sl]] [] (fun v post => ∃ u v1 w z r g g2, v = .tuple #[.agg #[.pointer u, .pointer v1, .pointer w, .pointer z], .pointer (some ⟨r, 0, none⟩)] ∧ post = [g, g2] ∧ MachEl b (newR k tt pl sl) u v1 w z g ∧ g2 = dmPt r c (newD k tt pl sl)) := by
 unfold newR newD
 by_cases h1 : k = 0
 ·rw [if_pos h1, if_pos h1, if_pos h1]; have := made_0 w0 b c hc k tt pl sl htt hpl hsl h1; rw [h1] at this ⊢; exact this
 by_cases h2 : k = 1
 ·rw [if_neg h1, if_pos h2, if_neg h1, if_pos h2, if_neg h1, if_pos h2]; have := made_1 w0 b c hc k tt pl sl htt hpl hsl h2; rw [h2] at this ⊢; exact this
 by_cases h3 : k = 2
 ·rw [if_neg h1, if_neg h2, if_pos h3, if_neg h1, if_neg h2, if_pos h3, if_neg h1, if_neg h2, if_pos h3]; have := made_2 w0 b c hc k tt pl sl htt hpl hsl h3; rw [h3] at this ⊢; exact this
 rw [if_neg h1, if_neg h2, if_neg h3, if_neg h1, if_neg h2, if_neg h3, if_neg h1, if_neg h2, if_neg h3]
 exact made_3 w0 b c hc k tt pl sl htt hpl hsl ⟨h1, h2, h3⟩
end Go.Proofs.YtkmndplicmaahaaGreat
