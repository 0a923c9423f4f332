import Derived.Test.YtbfafebfkdbglaaGreatFl9
import Derived.Test.YtbfafebfkdbglaaGreatFlist
import Derived.Test.YtbfafebfkdbglaaGreatFl7
/- The document's machines of layer 9. -/
namespace Go.Proofs.YtbfafebfkdbglaaGreat
open Go.RowKit
set_option linter.unusedVariables false
attribute [local irreducible] K.KW K.RW K.DW K.OW K.QR K.KC
def lineOf (pc : Int) : Int := if pc = 3 then 0 else pc + 1
def pcOk (pc : Int) : Prop := pc = 0 ∨ pc = 1 ∨ pc = 2 ∨ pc = 3
theorem line_t {pc : Int} (h : pc = 3) : lineOf pc = 0 := by subst h; rfl
theorem line_f {pc : Int} (h : ¬ pc = 3) (hp : pcOk pc) : ¬ lineOf pc = 0 := by unfold lineOf; rw [if_neg h]; unfold pcOk at hp; omega
theorem popStep_pc {c : Cfg} {n : Nat} {S : PopS} {M : MemM} (h : pcOk S.pc) : pcOk (popStep c n S M).1.pc := by
 unfold popStep
 (repeat' split) <;> first | exact h | (unfold pcOk; simp; done) | (unfold pcOk; simp; split <;> simp)
theorem tmod32 (x : Int) : Int.tmod x 4294967296 = if 0 ≤ x then x % 4294967296 else -((-x) % 4294967296) := by
 split
 ·rename_i h; exact Int.tmod_eq_emod_of_nonneg h
 ·rename_i h
  obtain ⟨y, rfl⟩ : ∃ y, x = -y := ⟨-x, by omega⟩
  rw [Int.neg_tmod, Int.tmod_eq_emod_of_nonneg (by omega), Int.neg_neg]
theorem wrapU32 (x : Int) : IntKind.u32.wrap x = x % 4294967296 := by simp [IntKind.wrap, IntKind.bits, IntKind.signed]
theorem top_low (w : Int) : w % 4294967296 = topI (toI w) 0 := by unfold topI toI; omega
set_option maxHeartbeats 1000000 in
set_option maxRecDepth 100000 in
theorem rcut_ok (w0 : World) (x : Int) (hx : isInt x) :
  K.GC Tryz.prog w0 181 #[K.iv x, K.iv 4294967296] [] (fun v post => v = K.iv ((x + 1) % 4294967296) ∧ post = []) := by
 have ht := tmod32 x
 have hb : -4294967296 < Int.tmod x 4294967296 ∧ Int.tmod x 4294967296 < 4294967296 := by rw [ht]; split <;> omega
 refine K.GC.mk (n := 18) Tryz.func181 rfl rfl [K.iv x, K.iv 4294967296] rfl rfl ?_
 intro fr w hS
 replace hS : K.Sat w0 [fr] w := hS
 refine K.s (K.g (K.q [K.iv 0] (K.z (K.t (K.s (K.g (K.q [K.iv x, K.iv 4294967296, K.iv (Int.tmod x 4294967296), K.iv (Int.tmod x 4294967296)] (K.z (K.t (K.s (K.s (K.g (K.q [K.iv (Int.tmod x 4294967296)] ?_)))))))))))))
 by_cases h_1 : ((Int.tmod x 4294967296) : Int) < (0 : Int)
 ·
  refine K.y (((Int.tmod x 4294967296) : Int) < (0 : Int)) h_1 ?_
  refine K.z (K.t (K.h (K.g (K.q [K.iv (Int.tmod x 4294967296), K.iv 4294967296] ?_))))
  refine K.a (K.QR.n64 (((Int.tmod x 4294967296) : Int) + (4294967296 : Int)) (((Int.tmod x 4294967296) : Int) + (4294967296 : Int)) (by kernel_rfl) (by omega)) ?_
  refine K.q [K.iv (((Int.tmod x 4294967296) : Int) + (4294967296 : Int))] (K.z (K.t (K.s (K.g (K.q [K.iv (((Int.tmod x 4294967296) : Int) + (4294967296 : Int))] ?_)))))
  refine K.a (K.QR.n64 ((((Int.tmod x 4294967296) : Int) + (4294967296 : Int) : Int) + (1 : Int)) ((((Int.tmod x 4294967296) : Int) + (4294967296 : Int) : Int) + (1 : Int)) (by kernel_rfl) (by omega)) ?_
  refine K.q [K.iv 4294967296] ?_
  refine K.a (K.QR.remi64 ((((Int.tmod x 4294967296) : Int) + (4294967296 : Int) : Int) + (1 : Int) : Int) 4294967296 (((((Int.tmod x 4294967296) : Int) + (4294967296 : Int) : Int) + (1 : Int) : Int) % 4294967296) (by kernel_rfl) (by omega) (by omega)) ?_
  refine K.q [K.iv (((((Int.tmod x 4294967296) : Int) + (4294967296 : Int) : Int) + (1 : Int) : Int) % 4294967296)] (K.z (K.t (K.r ?_)))
  refine ⟨.inr rfl, rfl, (K.iv (((((Int.tmod x 4294967296) : Int) + (4294967296 : Int) : Int) + (1 : Int) : Int) % 4294967296)), K.res1 rfl rfl, [], ?_, hS.pick [0]⟩
  exact ⟨congrArg (Value.int .i64) (by split at ht <;> omega), rfl⟩
 ·
  refine K.x (((Int.tmod x 4294967296) : Int) < (0 : Int)) h_1 ?_
  refine K.z (K.t (K.f (K.k (K.t (K.s (K.g (K.q [K.iv (Int.tmod x 4294967296)] ?_)))))))
  refine K.a (K.QR.n64 (((Int.tmod x 4294967296) : Int) + (1 : Int)) (((Int.tmod x 4294967296) : Int) + (1 : Int)) (by kernel_rfl) (by omega)) ?_
  refine K.q [K.iv 4294967296] ?_
  refine K.a (K.QR.remi64 (((Int.tmod x 4294967296) : Int) + (1 : Int) : Int) 4294967296 ((((Int.tmod x 4294967296) : Int) + (1 : Int) : Int) % 4294967296) (by kernel_rfl) (by omega) (by omega)) ?_
  refine K.q [K.iv ((((Int.tmod x 4294967296) : Int) + (1 : Int) : Int) % 4294967296)] (K.z (K.t (K.r ?_)))
  refine ⟨.inr rfl, rfl, (K.iv ((((Int.tmod x 4294967296) : Int) + (1 : Int) : Int) % 4294967296)), K.res1 rfl rfl, [], ?_, hS.pick [0]⟩
  exact ⟨congrArg (Value.int .i64) (by split at ht <;> omega), rfl⟩
set_option maxHeartbeats 1000000 in
set_option maxRecDepth 100000 in
theorem rtop_ok (w0 : World) (x v : Int) (hx : isInt x) (hv : 0 ≤ v ∧ v < 4294967296) :
  K.GC Tryz.prog w0 155 #[K.iv x, .int .u32 v] [] (fun v_ post => v_ = .int .u64 (topI x v) ∧ post = []) := by
 refine K.GC.mk (n := 12) Tryz.func155 rfl rfl [K.iv x, .int .u32 v] rfl rfl ?_
 intro fr w hS
 replace hS : K.Sat w0 [fr] w := hS
 refine K.s (K.g (K.q [.int .u64 0] (K.z (K.t (K.s (K.g (K.q [K.iv x] ?_)))))))
 refine K.l (K.OW.gcall hS [] [0] [K.iv x, K.iv 4294967296] (rcut_ok _ x (by first | omega | (unfold toI; omega))) ?_)
 clear hS; rintro _ _ w ⟨rfl, rfl⟩ hS
 replace hS : K.Sat w0 [fr] w := hS
 refine K.a (K.QR.nice (v := .int .u64 (IntKind.u64.wrap ((x + 1) % 4294967296))) (by kernel_rfl) (congrArg (Value.int .u64) (IntWalk.u64_in _ (by omega)))) ?_
 refine K.q [.int .u32 v] ?_
 refine K.a (K.QR.nice (v := .int .u64 (IntKind.u64.wrap v)) (by kernel_rfl) (congrArg (Value.int .u64) (IntWalk.u64_in _ (by omega)))) ?_
 refine K.a (K.QR.nu64 ((4294967296 : Int) * (v : Int)) ((4294967296 : Int) * (v : Int)) (by kernel_rfl) (by omega)) ?_
 refine K.a (K.QR.nu64 ((((x + 1) % 4294967296) : Int) + ((4294967296 : Int) * (v : Int) : Int)) ((((x + 1) % 4294967296) : Int) + ((4294967296 : Int) * (v : Int) : Int)) (by kernel_rfl) (by omega)) ?_
 refine K.q [.int .u64 ((((x + 1) % 4294967296) : Int) + ((4294967296 : Int) * (v : Int) : Int))] (K.z (K.t (K.r ?_)))
 refine ⟨.inr rfl, rfl, (.int .u64 ((((x + 1) % 4294967296) : Int) + ((4294967296 : Int) * (v : Int) : Int))), K.res1 rfl rfl, [], ?_, hS.pick [0]⟩
 exact ⟨congrArg (Value.int .u64) (by unfold topI; omega), rfl⟩
set_option maxHeartbeats 1000000 in
set_option maxRecDepth 100000 in
theorem rver_ok (w0 : World) (x : Int) (hx : isW x) :
  K.GC Tryz.prog w0 156 #[.int .u64 x] [] (fun v post => v = .int .u32 (verI x) ∧ post = []) := by
 have hx2 := hx
 unfold isW at hx2
 refine K.GC.mk (n := 6) Tryz.func156 rfl rfl [.int .u64 x] rfl rfl ?_
 intro fr w hS
 replace hS : K.Sat w0 [fr] w := hS
 refine K.s (K.g (K.q [.int .u32 0] (K.z (K.t (K.s (K.g (K.q [.int .u64 x] ?_)))))))
 refine K.a (K.QR.quou64 (x : Int) 4294967296 ((x : Int) / 4294967296) (by kernel_rfl) (by omega) (by omega)) ?_
 refine K.q [.int .u32 (IntKind.u32.wrap ((x : Int) / 4294967296)), .int .u32 (IntKind.u32.wrap ((x : Int) / 4294967296))] (K.z (K.t (K.r ?_)))
 refine ⟨.inr rfl, rfl, (.int .u32 (IntKind.u32.wrap ((x : Int) / 4294967296))), K.res1 rfl rfl, [], ?_, hS.pick [0]⟩
 exact ⟨congrArg (Value.int .u32) (by unfold verI; simp [IntKind.wrap, IntKind.bits, IntKind.signed]), rfl⟩
end Go.Proofs.YtbfafebfkdbglaaGreat

/- Layer 9: what is done between steps. -/
namespace Go.Proofs.YtbfafebfkdbglaaGreat
open Go.RowKit
set_option linter.unusedVariables false
attribute [local irreducible] K.KW K.RW K.DW K.OW K.QR K.KC
structure PokeM where
 step : Bool
 act : ActP
def cPoke (p : PokeM) : List Value := .bool p.step :: cActP p.act
def pk0 : PokeM := ⟨false, ap0⟩
def DevM.words (D : DevM) : Prop := (∀ x ∈ D.seen, isW x) ∧ (∀ x ∈ D.kept, isW x)
theorem back_words {D : DevM} {k : Nat} (h : D.words) : (D.back k).words := ⟨h.1, fun x hx => by
 unfold DevM.back copyL at hx
 rcases List.mem_append.1 hx with hx | hx
 ·rcases List.mem_append.1 hx with hx | hx
  ·exact h.2 x ((List.take_sublist _ _).subset hx)
  ·exact h.1 x ((List.drop_sublist _ _).subset ((List.take_sublist _ _).subset hx))
 ·exact h.2 x ((List.drop_sublist _ _).subset hx)⟩
theorem backs_words : ∀ (l : List Int) (D : DevM), D.words → (l.foldl (fun D x => D.back x.toNat) D).words
 | [], _, h => h
 | x :: l, D, h => backs_words l _ (back_words h)
theorem fence_words {D : DevM} {k : Nat} (h : D.words) : (D.fence k).words := backs_words _ (D.clear k) h
theorem act7_good {M : MemM} {n t : Nat} {a : ActP} (h : M.good) (hw : isW a.w) : (act7 M n t a).good := by
 unfold act7
 split
 ·exact h
 split
 ·exact accS_good h hw
 split
 ·exact accW_good h hw
 split
 ·show MemM.good (MemM.count (if decide _ = true then _ else M) _ _)
  split
  ·exact h
  ·exact h
 split
 ·show MemM.good (MemM.count (if decide _ = true then _ else M) _ _)
  split
  ·have := fence_words (k := a.thread.toNat) (D := M.dev) h.2
   exact ⟨h.1, this⟩
  ·exact h
 split
 ·split
  ·have := back_words (k := a.at_.toNat) (D := M.dev) h.2
   exact ⟨h.1, this⟩
  ·exact h
 ·exact ⟨rep_W, h.2.2, h.2.2⟩
end Go.Proofs.YtbfafebfkdbglaaGreat
