/- The document's free list. -/
import Derived.Test.YtajkickofkeemaaGreatFfr2
import Derived.Test.YtajkickofkeemaaGreatKn
namespace Go.Proofs.YtajkickofkeemaaGreat
open Go.RowKit
set_option linter.unusedVariables false
attribute [local irreducible] K.KW K.RW K.DW K.OW K.QR K.KC

def seenT (o : List Int) (N : Nat) : List Bool := (List.range N).map fun (i : Nat) => decide ((i : Int) ∈ o)
theorem seenT_len (o : List Int) (N : Nat) : (seenT o N).length = N := by simp [seenT]
theorem seenT_nil (N : Nat) : List.replicate N false = seenT [] N := by
 apply List.ext_getElem (by simp [seenT])
 intro i h1 h2
 simp [seenT]
theorem seenT_get {o : List Int} {N : Nat} {s : Int} (h : 0 ≤ s ∧ s < N) : (seenT o N).getD s.toNat false = decide (s ∈ o) := by
 have h1 : s.toNat < N := by omega
 have h2 : ((s.toNat : Nat) : Int) = s := by omega
 simp [seenT, h1, h2]
theorem seenT_set {o : List Int} {N : Nat} {s : Int} (h : 0 ≤ s ∧ s < N) : (seenT o N).set s.toNat true = seenT (o ++ [s]) N := by
 apply List.ext_getElem (by simp [seenT])
 intro i h1 h2
 rw [List.getElem_set]
 by_cases e : s.toNat = i
 ·subst e
  have h2 : ((s.toNat : Nat) : Int) = s := by omega
  simp [seenT, h2]
 ·have : ¬ (i : Int) = s := by omega
  simp [seenT, e, this]

set_option maxHeartbeats 1000000 in
set_option maxRecDepth 100000 in
theorem rto_ok (w0 : World) (x : Int) (hx : isW x) :
  K.GC Tryz.prog w0 67 #[.int .u64 x] [] (fun v post => v = .int .i64 (toI x) ∧ post = []) := by
 have hx2 := hx
 unfold isW at hx2
 refine K.GC.mk (n := 7) Tryz.func67 rfl rfl [.int .u64 x] rfl rfl ?_
 intro fr w hS
 replace hS : K.Sat w0 [fr] w := hS
 refine K.s (K.g (K.q [.int .i64 0] (K.z (K.t (K.s (K.g (K.q [.int .u64 x] ?_)))))))
 refine K.a (K.QR.remu64 (x : Int) 4294967296 ((x : Int) % 4294967296) (by kernel_rfl) (by omega) (by omega)) ?_
 refine K.a (K.QR.nice (v := .int .i64 (IntKind.i64.wrap ((x : Int) % 4294967296))) (by kernel_rfl) (congrArg (Value.int .i64) (IntWalk.i64_in _ (by omega)))) ?_
 refine K.a (K.QR.n64 (((x : Int) % 4294967296 : Int) + ((-1) : Int)) (((x : Int) % 4294967296 : Int) + ((-1) : Int)) (by kernel_rfl) (by omega)) ?_
 refine K.q [.int .i64 (((x : Int) % 4294967296 : Int) + ((-1) : Int))] (K.z (K.t (K.r ?_)))
 refine ⟨.inr rfl, rfl, (.int .i64 (((x : Int) % 4294967296 : Int) + ((-1) : Int))), K.res1 rfl rfl, [], ?_, hS.pick [0]⟩
 exact ⟨congrArg (Value.int .i64) (by unfold toI; omega), rfl⟩

set_option maxHeartbeats 1000000 in
set_option maxRecDepth 100000 in
theorem rafter_ok (w0 : World) (c : Cfg) (hc : cfgOk c) (s : Int) :
  K.GC Tryz.prog w0 68 #[.agg #[.int .i64 c.th, .int .i64 c.sl, .int .i64 c.lo, .int .i64 c.bu], .int .i64 s] [] (fun v post => v = .int .i64 (aftS c s) ∧ post = []) := by
 refine K.GC.mk (n := 9) Tryz.func68 rfl rfl [.agg #[.int .i64 c.th, .int .i64 c.sl, .int .i64 c.lo, .int .i64 c.bu], .int .i64 s] rfl rfl ?_
 intro fr w hS
 replace hS : K.Sat w0 [fr] w := hS
 refine K.s (K.g ?_)
 refine K.l (K.OW.gnew 23 [.int .i64 c.th, .int .i64 c.sl, .int .i64 c.lo, .int .i64 c.bu] hS ?_)
 clear hS; intro w r_1 g_2 hg_3 hS
 refine K.q [.int .i64 0] (K.z (K.t (K.s (K.g ?_))))
 refine K.a (K.QR.ldN [.int .i64 c.th, .int .i64 c.sl, .int .i64 c.lo, .int .i64 c.bu] rfl rfl (by kernel_rfl) (by kernel_rfl) (K.cells (K.cl ((hS.blk 0 rfl hg_3).cell rfl) (K.cl ((hS.blk 0 rfl hg_3).cell rfl) (K.cl ((hS.blk 0 rfl hg_3).cell rfl) (K.cl ((hS.blk 0 rfl hg_3).cell rfl) K.cl0)))))) ?_
 refine K.q [.int .i64 s] ?_
 refine K.a (K.QR.bd [(0, .int .i64 17), (1, .int .i64 s)] [.int .i64 17, .int .i64 s, .int .i64 0] rfl rfl (by kernel_rfl)) ?_
 refine K.l (K.OW.gcall hS [] [0, 1] [.agg #[.int .i64 c.th, .int .i64 c.sl, .int .i64 c.lo, .int .i64 c.bu], .agg #[.int .i64 17, .int .i64 s, .int .i64 0]] (at_ok _ c (⟨17, s, 0⟩ : Nm) (by assumption)) ?_)
 clear hS; rintro _ _ w ⟨rfl, rfl⟩ hS
 replace hS : K.Sat w0 [g_2, fr] w := hS
 refine K.q [.int .i64 (atT (lasting c) (passing c) (⟨17, s, 0⟩ : Nm))] (K.z (K.t (K.r ?_)))
 refine ⟨.inr rfl, rfl, (.int .i64 (atT (lasting c) (passing c) (⟨17, s, 0⟩ : Nm))), K.res1 rfl rfl, [], ?_, hS.pick [1]⟩
 exact ⟨congrArg (Value.int .i64) (at_aft hc s), rfl⟩

end Go.Proofs.YtajkickofkeemaaGreat
