import Derived.Test.YtbfafebfkdbglaaGreatFre3
import Derived.Test.YtbfafebfkdbglaaGreatFlist
import Derived.Test.YtbfafebfkdbglaaGreatFrd3
/- Layer 11: Reclaim, as it is called. -/
namespace Go.Proofs.YtbfafebfkdbglaaGreat
open Go.RowKit
set_option linter.unusedVariables false
attribute [local irreducible] K.KW K.RW K.DW K.OW K.QR K.KC
theorem onPc_4 {c : Cfg} {x : Int} : ¬ onPc c x = 4 := by unfold onPc; split <;> decide
def RecEl (p b : Nat) (S : RecS) (g : K.Cs) : Prop := (¬ S.pc = 4 ∧ ∃ a, g = recPt p b a S) ∨ (S.pc = 4 ∧ ∃ px, g = recPt p b (some ⟨px, 0, none⟩) S ++ pushPt px b S.push)
theorem recStep_n4 {c : Cfg} {n : Nat} {S : RecS} {M : MemM} (h : ¬ S.pc = 2) (h2 : ¬ S.pc = 4) (hg : S.good c) : ¬ (recStep c n S M).1.pc = 4 := by
 have hp := hg.2.2.2.2.2
 unfold recStep
 split
 ·omega
 split
 ·show ¬ (1 : Int) = 4; decide
 split
 ·unfold recLook
  split
  ·show ¬ (2 : Int) = 4; decide
  ·exact onPc_4
 ·omega
theorem recStep_ok (w0 : World) (p b pm q n t : Nat) (c : Cfg) (hc : cfgOk c) (S : RecS) (M : MemM) (g gl l : K.Cs) (h : RecEl p b S g) (hgl : gl = layPt b c) (x : MemAt l pm q n t M) (hM : M.good) (hS : S.good c) :
  K.GC Tryz.prog w0 209 #[K.pa p, K.pa pm] [g, gl, l] (fun v post => ∃ g' l', v = .bool (recStep c n S M).1.done ∧ post = [g', gl, l'] ∧ RecEl p b (recStep c n S M).1 g' ∧ MemAt l' pm q n t (recStep c n S M).2) := by
 rcases h with ⟨h4, a, rfl⟩ | ⟨h4, px, rfl⟩
 ·by_cases h2 : S.pc = 2
  ·intro fr w hs
   refine K.KC.mono (recStepB_ok w0 p b pm q n t c hc a S M _ gl l rfl hgl x hM hS h2 fr w hs) ?_
   rintro v w' ⟨post, ⟨gp', gx, l', px, rfl, rfl, h1, h3, h5⟩, hs2⟩
   have e : (recStep c n S M).1.pc = 4 := by unfold recStep; rw [if_neg (by omega), if_neg (by omega), if_neg (by omega), if_pos h2]
   exact ⟨[gp' ++ gx, gl, l'], ⟨_, _, rfl, rfl, .inr ⟨e, px, by rw [h1, h3]⟩, h5⟩, hs2.of (by simp)⟩
  ·refine (recStepA_ok w0 p b pm q n t c hc a S M _ gl l rfl hgl x hM hS ⟨h2, h4⟩).mono ?_
   rintro v post ⟨gp', l', rfl, rfl, h1, h3⟩
   exact ⟨_, _, rfl, rfl, .inl ⟨recStep_n4 h2 h4 hS, a, h1⟩, h3⟩
 ·intro fr w hs
  refine K.KC.mono (recStepC_ok w0 p b pm q n t c hc _ S M _ gl l rfl hgl x hM hS px _ rfl rfl h4 fr w (hs.of (by simp))) ?_
  rintro v w' ⟨post, ⟨gp', gx, l', rfl, rfl, h1, h3, h5⟩, hs2⟩
  by_cases e : (recStep c n S M).1.pc = 4
  ·exact ⟨[gp' ++ gx, gl, l'], ⟨_, _, rfl, rfl, .inr ⟨e, px, by rw [h1, h3]⟩, h5⟩, hs2.of (by simp)⟩
  ·exact ⟨[gp', gl, l'], ⟨_, _, rfl, rfl, .inl ⟨e, _, h1⟩, h5⟩, (hs2.pick [0, 2, 3, 4]).of (by simp [K.pick, K.nth])⟩
set_option maxHeartbeats 1000000 in
set_option maxRecDepth 100000 in
theorem newrec_ok (w0 : World) (b : Nat) (tt : Int) :
  K.GC Tryz.prog w0 194 #[K.pa b, K.iv tt] [] (fun v post => ∃ p g, v = K.pa p ∧ post = [g] ∧ g = recPt p b none ⟨tt, 0, 0, 0, -1, 0, ⟨0, 0, 0, 0⟩⟩) := by
 refine K.GC.mk (n := 10) Tryz.func194 rfl rfl [K.pa b, K.iv tt] rfl rfl ?_
 intro fr w hS
 replace hS : K.Sat w0 [fr] w := hS
 refine K.s (K.g (K.q [.pointer none] (K.z (K.t (K.s (K.g (K.q [K.pa b, K.iv tt] ?_)))))))
 refine K.a (K.QR.bd [(0, K.pa b), (1, K.iv tt)] [K.pa b, K.iv tt, K.iv 0] rfl rfl (by kernel_rfl)) ?_
 refine K.a (K.QR.bd [(0, .agg #[K.pa b, K.iv tt, K.iv 0]), (3, K.iv (-1))] [K.pa b, K.iv tt, K.iv 0, .int .u64 0, K.iv 0, K.iv (-1), .pointer none, K.iv 0] rfl rfl (by kernel_rfl)) ?_
 refine K.l (K.OW.gnew 213 [K.pa b, K.iv tt, K.iv 0, .int .u64 0, K.iv 0, K.iv (-1), .pointer none, K.iv 0] hS ?_)
 clear hS; intro w r_1 g_2 hg_3 hS
 refine K.q [K.pa r_1] (K.z (K.t (K.r ?_)))
 refine ⟨.inr rfl, rfl, (K.pa r_1), K.res1 rfl rfl, [g_2], ?_, hS.pick [0, 1]⟩
 exact ⟨_, _, rfl, rfl, hg_3⟩
theorem recHoldsE_ok (w0 : World) (p b : Nat) (S : RecS) (g : K.Cs) (h : RecEl p b S g) : K.GC Tryz.prog w0 99 #[K.pa p] [g] (fun v post => v = K.iv (recHolds S) ∧ post = [g]) := by
 rcases h with ⟨_, a, rfl⟩ | ⟨_, px, rfl⟩
 ·exact recHolds_ok w0 p b a S _ rfl
 ·intro fr w hs
  refine K.KC.mono (recHolds_ok w0 p b (some ⟨px, 0, none⟩) S _ rfl ([pushPt px b S.push, fr].flatten) w (hs.of (by simp))) ?_
  rintro v w' ⟨post, ⟨rfl, rfl⟩, hs2⟩
  exact ⟨_, ⟨rfl, rfl⟩, hs2.of (by simp)⟩
end Go.Proofs.YtbfafebfkdbglaaGreat

/- Layer 4: an act on both devices; are they one? -/
namespace Go.Proofs.YtbfafebfkdbglaaGreat
open Go.RowKit
set_option linter.unusedVariables false
attribute [local irreducible] K.KW K.RW K.DW K.OW K.QR K.KC
/-- something that is done to a device -/
structure ActM where
 kind : Int
 thread : Int
 line : Int
 at_ : Int
 w : Int
def a0 : ActM := ⟨0, 0, 0, 0, 0⟩
def ActM.good (a : ActM) : Prop := isInt a.kind ∧ isInt a.thread ∧ isInt a.line ∧ isInt a.at_
theorem sameB_self (xs : List Int) : sameB xs xs = true := decide_eq_true rfl
theorem sameN_ok (a a' : Option Addr) (cap cap' n m : Nat) (xs ys : List Int) (w : World) (hm : n ≤ 9223372036854775807) (ln : xs.length = n) (lm : ys.length = m) (hx : K.RowE w a n 1 (fun i => cU64 (xs.getD i 0))) (hy : K.RowE w a' m 1 (fun i => cU64 (ys.getD i 0))) :
  K.KC Tryz.prog 89 #[.slice a n cap, .slice a' m cap'] w (fun v w' => v = .bool (sameB xs ys) ∧ K.Chg K.No w w') := by
 subst ln lm
 exact same_ok a a' cap cap' xs ys w hm hx hy
end Go.Proofs.YtbfafebfkdbglaaGreat
