import Derived.Test.YtbfafebfkdbglaaGreatFfr
import Derived.Test.YtbfafebfkdbglaaGreatKn
/- The document's free list. -/
namespace Go.Proofs.YtbfafebfkdbglaaGreat
open Go.RowKit
set_option linter.unusedVariables false
attribute [local irreducible] K.KW K.RW K.DW K.OW K.QR K.KC
set_option maxHeartbeats 1000000 in
set_option maxRecDepth 100000 in
theorem rafter_ok (w0 : World) (c : Cfg) (hc : cfgOk c) (s : Int) :
  K.GC Tryz.prog w0 136 #[.agg #[.int .i64 c.th, .int .i64 c.sl, .int .i64 c.lo, .int .i64 c.bu], .int .i64 s] [] (fun v post => v = .int .i64 (aftS c s) ∧ post = []) := by
 refine K.GC.mk (n := 9) Tryz.func136 rfl rfl [.agg #[.int .i64 c.th, .int .i64 c.sl, .int .i64 c.lo, .int .i64 c.bu], .int .i64 s] rfl rfl ?_
 intro fr w hS
 replace hS : K.Sat w0 [fr] w := hS
 refine K.s (K.g ?_)
 refine K.l (K.OW.gnew 23 [.int .i64 c.th, .int .i64 c.sl, .int .i64 c.lo, .int .i64 c.bu] hS ?_)
 clear hS; intro w r_1 g_2 hg_3 hS
 refine K.q [.int .i64 0] (K.z (K.t (K.s (K.g ?_))))
 refine K.a (K.QR.ldN [.int .i64 c.th, .int .i64 c.sl, .int .i64 c.lo, .int .i64 c.bu] rfl rfl (by kernel_rfl) (by kernel_rfl) (K.cells (K.cl ((hS.blk 0 rfl hg_3).cell rfl) (K.cl ((hS.blk 0 rfl hg_3).cell rfl) (K.cl ((hS.blk 0 rfl hg_3).cell rfl) (K.cl ((hS.blk 0 rfl hg_3).cell rfl) K.cl0)))))) ?_
 refine K.q [.int .i64 s] ?_
 refine K.a (K.QR.bd [(0, .int .i64 17), (1, .int .i64 s)] [.int .i64 17, .int .i64 s, .int .i64 0] rfl rfl (by kernel_rfl)) ?_
 refine K.l (K.OW.gcall hS [] [0, 1] [.agg #[.int .i64 c.th, .int .i64 c.sl, .int .i64 c.lo, .int .i64 c.bu], .agg #[.int .i64 17, .int .i64 s, .int .i64 0]] (at_ok _ c (⟨17, s, 0⟩ : Nm) (by assumption)) ?_)
 clear hS; rintro _ _ w ⟨rfl, rfl⟩ hS
 replace hS : K.Sat w0 [g_2, fr] w := hS
 refine K.q [.int .i64 (atT (lasting c) (passing c) (⟨17, s, 0⟩ : Nm))] (K.z (K.t (K.r ?_)))
 refine ⟨.inr rfl, rfl, (.int .i64 (atT (lasting c) (passing c) (⟨17, s, 0⟩ : Nm))), K.res1 rfl rfl, [], ?_, hS.pick [1]⟩
 exact ⟨congrArg (Value.int .i64) (at_aft hc s), rfl⟩
end Go.Proofs.YtbfafebfkdbglaaGreat
