import Derived.Test.YtbfafebfkdbglaaGreatFfr
import Derived.Test.YtbfafebfkdbglaaGreatFlist
/- The free list: the code's and the document's. -/
namespace Go.Proofs.YtbfafebfkdbglaaGreat
open Go.RowKit
set_option linter.unusedVariables false
attribute [local irreducible] K.KW K.RW K.DW K.OW K.QR K.KC
theorem nodup_le : ∀ (n : Nat) (l : List Int), l.Nodup → (∀ x ∈ l, 0 ≤ x ∧ x < n) → l.length ≤ n
 | 0, [], _, _ => Nat.le_refl 0
 | 0, x :: l, _, h => by have := h x (by simp); omega
 | n + 1, l, hn, h => by
  by_cases hm : (n : Int) ∈ l
  ·have h1 := List.length_erase_of_mem hm
   have h2 := nodup_le n (l.erase (n : Int)) (hn.erase _) (fun x hx => by
    have hx2 := (List.Nodup.mem_erase_iff hn).1 hx
    have := h x hx2.2
    have := hx2.1
    omega)
   omega
  ·have := nodup_le n l hn (fun x hx => by
    have := h x hx
    have : x ≠ (n : Int) := fun e => hm (e ▸ hx)
    omega)
   omega
/-- the free list, gone through -/
def listC (c : Cfg) (n : Nat) (M : MemM) : Nat → List Int → Int → List Int × Bool
 | 0, o, _ => (o, false)
 | k + 1, o, w => if toI w = -1 then (o, true) else if toI w ≥ c.sl ∨ toI w ∈ o then (o, false) else listC c n M k (o ++ [toI w]) ((M.peek n (aftS c (toI w))).getD 0)
def listG (c : Cfg) (n : Nat) (M : MemM) : List Int × Bool := listC c n M (c.sl.toNat + 2) [] ((M.peek n (-2)).getD 0)
section
variable {c : Cfg} {n : Nat} {M : MemM} {m : Nat} {o : List Int} {w : Int}
theorem listC_end (h : 0 < m) (e : toI w = -1) : listC c n M m o w = (o, true) := by
 cases m with
 | zero => omega
 | succ m => unfold listC; rw [if_pos e]
theorem listC_on {m' : Nat} (h : m = m' + 1) (e : ¬ toI w = -1) (e1 : ¬ toI w ≥ c.sl) (e2 : ¬ toI w ∈ o) : listC c n M m o w = listC c n M m' (o ++ [toI w]) ((M.peek n (aftS c (toI w))).getD 0) := by
 subst h
 rw [listC, if_neg e, if_neg (fun h => h.elim e1 e2)]
end
theorem toI_ge (w : Int) : -1 ≤ toI w := by unfold toI; omega
end Go.Proofs.YtbfafebfkdbglaaGreat

/- The document's free list. -/
namespace Go.Proofs.YtbfafebfkdbglaaGreat
open Go.RowKit
set_option linter.unusedVariables false
attribute [local irreducible] K.KW K.RW K.DW K.OW K.QR K.KC
set_option maxHeartbeats 1000000 in
set_option maxRecDepth 100000 in
theorem rafter_ok (w0 : World) (c : Cfg) (hc : cfgOk c) (s : Int) :
  K.GC Tryz.prog w0 136 #[.agg #[.int .i64 c.th, .int .i64 c.sl, .int .i64 c.lo, .int .i64 c.bu], .int .i64 s] [] (fun v post => v = .int .i64 (aftS c s) ∧ post = []) := by
 refine K.GC.mk (n := 9) Tryz.func136 rfl rfl [.agg #[.int .i64 c.th, .int .i64 c.sl, .int .i64 c.lo, .int .i64 c.bu], .int .i64 s] rfl rfl ?_
 intro fr w hS
 replace hS : K.Sat w0 [fr] w := hS
 refine K.s (K.g ?_)
 refine K.l (K.OW.gnew 23 [.int .i64 c.th, .int .i64 c.sl, .int .i64 c.lo, .int .i64 c.bu] hS ?_)
 clear hS; intro w r_1 g_2 hg_3 hS
 refine K.q [.int .i64 0] (K.z (K.t (K.s (K.g ?_))))
 refine K.a (K.QR.ldN [.int .i64 c.th, .int .i64 c.sl, .int .i64 c.lo, .int .i64 c.bu] rfl rfl (by kernel_rfl) (by kernel_rfl) (K.cells (K.cl ((hS.blk 0 rfl hg_3).cell rfl) (K.cl ((hS.blk 0 rfl hg_3).cell rfl) (K.cl ((hS.blk 0 rfl hg_3).cell rfl) (K.cl ((hS.blk 0 rfl hg_3).cell rfl) K.cl0)))))) ?_
 refine K.q [.int .i64 s] ?_
 refine K.a (K.QR.bd [(0, .int .i64 17), (1, .int .i64 s)] [.int .i64 17, .int .i64 s, .int .i64 0] rfl rfl (by kernel_rfl)) ?_
 refine K.l (K.OW.gcall hS [] [0, 1] [.agg #[.int .i64 c.th, .int .i64 c.sl, .int .i64 c.lo, .int .i64 c.bu], .agg #[.int .i64 17, .int .i64 s, .int .i64 0]] (at_ok _ c (⟨17, s, 0⟩ : Nm) (by assumption)) ?_)
 clear hS; rintro _ _ w ⟨rfl, rfl⟩ hS
 replace hS : K.Sat w0 [g_2, fr] w := hS
 refine K.q [.int .i64 (atT (lasting c) (passing c) (⟨17, s, 0⟩ : Nm))] (K.z (K.t (K.r ?_)))
 refine ⟨.inr rfl, rfl, (.int .i64 (atT (lasting c) (passing c) (⟨17, s, 0⟩ : Nm))), K.res1 rfl rfl, [], ?_, hS.pick [1]⟩
 exact ⟨congrArg (Value.int .i64) (at_aft hc s), rfl⟩
end Go.Proofs.YtbfafebfkdbglaaGreat
