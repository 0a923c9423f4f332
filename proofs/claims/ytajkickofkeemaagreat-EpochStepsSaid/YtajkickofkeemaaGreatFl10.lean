/- Layer 10: what the statements call. -/
import Derived.Test.YtajkickofkeemaaGreatFep
import Derived.Test.YtajkickofkeemaaGreatFl9
import Derived.Test.YtajkickofkeemaaGreatKn
namespace Go.Proofs.YtajkickofkeemaaGreat
open Go.RowKit
set_option linter.unusedVariables false
attribute [local irreducible] K.KW K.RW K.DW K.OW K.QR K.KC
set_option maxHeartbeats 1000000 in
set_option maxRecDepth 100000 in
theorem newent_ok (w0 : World) (b : Nat) (a0 : Int) :
  K.GC Tryz.prog w0 37 #[.pointer (some ⟨b, 0, none⟩), .int .i64 a0] [] (fun v post => ∃ p g, v = .pointer (some ⟨p, 0, none⟩) ∧ post = [g] ∧ g = entPt p b ⟨a0, false, 0, false⟩) := by
 refine K.GC.mk (n := 10) Tryz.func37 rfl rfl [.pointer (some ⟨b, 0, none⟩), .int .i64 a0] rfl rfl ?_
 intro fr w hS
 replace hS : K.Sat w0 [fr] w := hS
 refine K.s (K.g (K.q [.pointer none] (K.z (K.t (K.s (K.g (K.q [.pointer (some ⟨b, 0, none⟩), .int .i64 a0] ?_)))))))
 refine K.a (K.QR.bd [(0, .pointer (some ⟨b, 0, none⟩)), (1, .int .i64 a0)] [.pointer (some ⟨b, 0, none⟩), .int .i64 a0, .bool false] rfl rfl (by kernel_rfl)) ?_
 refine K.a (K.QR.bd [(0, .agg #[.pointer (some ⟨b, 0, none⟩), .int .i64 a0, .bool false])] [.pointer (some ⟨b, 0, none⟩), .int .i64 a0, .bool false, .int .u64 0, .bool false] rfl rfl (by kernel_rfl)) ?_
 refine K.l (K.OW.gnew 149 [.pointer (some ⟨b, 0, none⟩), .int .i64 a0, .bool false, .int .u64 0, .bool false] hS ?_)
 clear hS; intro w r_1 g_2 hg_3 hS
 refine K.q [.pointer (some ⟨r_1, 0, none⟩)] (K.z (K.t (K.r ?_)))
 refine ⟨.inr rfl, rfl, (.pointer (some ⟨r_1, 0, none⟩)), K.res1 rfl rfl, [g_2], ?_, hS.pick [0, 1]⟩
 exact ⟨_, _, rfl, rfl, hg_3⟩
set_option maxHeartbeats 1000000 in
set_option maxRecDepth 100000 in
theorem newlea_ok (w0 : World) (b : Nat) (a0 : Int) :
  K.GC Tryz.prog w0 44 #[.pointer (some ⟨b, 0, none⟩), .int .i64 a0] [] (fun v post => ∃ p g, v = .pointer (some ⟨p, 0, none⟩) ∧ post = [g] ∧ g = leaPt p b ⟨a0, false⟩) := by
 refine K.GC.mk (n := 10) Tryz.func44 rfl rfl [.pointer (some ⟨b, 0, none⟩), .int .i64 a0] rfl rfl ?_
 intro fr w hS
 replace hS : K.Sat w0 [fr] w := hS
 refine K.s (K.g (K.q [.pointer none] (K.z (K.t (K.s (K.g (K.q [.pointer (some ⟨b, 0, none⟩), .int .i64 a0] ?_)))))))
 refine K.a (K.QR.bd [(0, .pointer (some ⟨b, 0, none⟩)), (1, .int .i64 a0)] [.pointer (some ⟨b, 0, none⟩), .int .i64 a0, .bool false] rfl rfl (by kernel_rfl)) ?_
 refine K.a (K.QR.bd [(0, .agg #[.pointer (some ⟨b, 0, none⟩), .int .i64 a0, .bool false])] [.pointer (some ⟨b, 0, none⟩), .int .i64 a0, .bool false] rfl rfl (by kernel_rfl)) ?_
 refine K.l (K.OW.gnew 155 [.pointer (some ⟨b, 0, none⟩), .int .i64 a0, .bool false] hS ?_)
 clear hS; intro w r_1 g_2 hg_3 hS
 refine K.q [.pointer (some ⟨r_1, 0, none⟩)] (K.z (K.t (K.r ?_)))
 refine ⟨.inr rfl, rfl, (.pointer (some ⟨r_1, 0, none⟩)), K.res1 rfl rfl, [g_2], ?_, hS.pick [0, 1]⟩
 exact ⟨_, _, rfl, rfl, hg_3⟩
set_option maxHeartbeats 1000000 in
set_option maxRecDepth 100000 in
theorem newadv_ok (w0 : World) (b : Nat) (a0 : Int) :
  K.GC Tryz.prog w0 38 #[.pointer (some ⟨b, 0, none⟩), .int .i64 a0] [] (fun v post => ∃ p g, v = .pointer (some ⟨p, 0, none⟩) ∧ post = [g] ∧ g = advPt p b ⟨a0, false, 0, 0, 0, false⟩) := by
 refine K.GC.mk (n := 10) Tryz.func38 rfl rfl [.pointer (some ⟨b, 0, none⟩), .int .i64 a0] rfl rfl ?_
 intro fr w hS
 replace hS : K.Sat w0 [fr] w := hS
 refine K.s (K.g (K.q [.pointer none] (K.z (K.t (K.s (K.g (K.q [.pointer (some ⟨b, 0, none⟩), .int .i64 a0] ?_)))))))
 refine K.a (K.QR.bd [(0, .pointer (some ⟨b, 0, none⟩)), (1, .int .i64 a0)] [.pointer (some ⟨b, 0, none⟩), .int .i64 a0, .bool false] rfl rfl (by kernel_rfl)) ?_
 refine K.a (K.QR.bd [(0, .agg #[.pointer (some ⟨b, 0, none⟩), .int .i64 a0, .bool false])] [.pointer (some ⟨b, 0, none⟩), .int .i64 a0, .bool false, .int .i64 0, .int .u64 0, .int .i64 0, .bool false] rfl rfl (by kernel_rfl)) ?_
 refine K.l (K.OW.gnew 113 [.pointer (some ⟨b, 0, none⟩), .int .i64 a0, .bool false, .int .i64 0, .int .u64 0, .int .i64 0, .bool false] hS ?_)
 clear hS; intro w r_1 g_2 hg_3 hS
 refine K.q [.pointer (some ⟨r_1, 0, none⟩)] (K.z (K.t (K.r ?_)))
 refine ⟨.inr rfl, rfl, (.pointer (some ⟨r_1, 0, none⟩)), K.res1 rfl rfl, [g_2], ?_, hS.pick [0, 1]⟩
 exact ⟨_, _, rfl, rfl, hg_3⟩
set_option maxHeartbeats 1000000 in
set_option maxRecDepth 100000 in
theorem advMoved_ok (w0 : World) (p b : Nat) (S : AdvS) (gp : K.Cs) (hgp : gp = advPt p b S) :
  K.GC Tryz.prog w0 15 #[.pointer (some ⟨p, 0, none⟩)] [gp] (fun v post => v = .bool S.moved ∧ post = [gp]) := by
 refine K.GC.mk (n := 11) Tryz.func15 rfl rfl [.pointer (some ⟨p, 0, none⟩)] rfl rfl ?_
 intro fr w hS
 replace hS : K.Sat w0 [gp, fr] w := hS
 refine K.s (K.g (K.q [.bool false] (K.z (K.t (K.s (K.g (K.q [.pointer (some ⟨p, 0, none⟩), .bool true, .bool true, .pointer (some ⟨p, 0, none⟩), .pointer (some ⟨p, 0, none⟩), .pointer (some ⟨p, 6, none⟩)] ?_)))))))
 refine K.d (.bool S.moved) ((hS.blk 0 rfl hgp).cell rfl) ?_
 refine K.q [.bool S.moved, .bool S.moved] (K.z (K.t (K.r ?_)))
 refine ⟨.inr rfl, rfl, (.bool S.moved), K.res1 rfl rfl, [gp], ?_, hS.pick [0, 1]⟩
 exact ⟨rfl, rfl⟩
set_option maxHeartbeats 1000000 in
set_option maxRecDepth 100000 in
theorem advMoved_nil (w0 : World)  :
  K.GC Tryz.prog w0 15 #[.pointer none] [] (fun v post => v = .bool false ∧ post = []) := by
 refine K.GC.mk (n := 11) Tryz.func15 rfl rfl [.pointer none] rfl rfl ?_
 intro fr w hS
 replace hS : K.Sat w0 [fr] w := hS
 refine K.s (K.g (K.q [.bool false] (K.z (K.t (K.s (K.g (K.q [.pointer none, .bool false, .bool false] ?_)))))))
 refine K.RW.skip rfl (by kernel_rfl) ?_
 refine K.RW.skip rfl (by kernel_rfl) ?_
 refine K.RW.skip rfl (by kernel_rfl) ?_
 refine K.RW.skip rfl (by kernel_rfl) ?_
 refine K.q [.bool false, .bool false] (K.z (K.t (K.r ?_)))
 refine ⟨.inr rfl, rfl, (.bool false), K.res1 rfl rfl, [], ?_, hS.pick [0]⟩
 exact ⟨rfl, rfl⟩
theorem pkS_ok (w0 : World) (p q n t : Nat) (M : MemM) (l : K.Cs) (x : MemAt l p q n t M) (i : Int) (hi : isInt i) (y : Int) (h0 : M.peek n i = some y) : K.GC Tryz.prog w0 41 #[.pointer (some ⟨p, 0, none⟩), .int .i64 i] [l] (fun v post => v = .tuple #[.int .u64 y, .bool true] ∧ post = [l]) := by
 refine (mPeek_ok w0 p q n t M l x i hi).mono ?_
 rintro v post ⟨rfl, ⟨y, rfl, h⟩ | ⟨rfl, h⟩⟩ <;> (rw [h0] at h; cases h) <;> exact ⟨rfl, rfl⟩
set_option maxHeartbeats 1000000 in
set_option maxRecDepth 100000 in
theorem rannounce_ok (w0 : World) (c : Cfg) (hc : cfgOk c) (s : Int) :
  K.GC Tryz.prog w0 46 #[.agg #[.int .i64 c.th, .int .i64 c.sl, .int .i64 c.lo, .int .i64 c.bu], .int .i64 s] [] (fun v post => v = .int .i64 (annS c s) ∧ post = []) := by
 refine K.GC.mk (n := 9) Tryz.func46 rfl rfl [.agg #[.int .i64 c.th, .int .i64 c.sl, .int .i64 c.lo, .int .i64 c.bu], .int .i64 s] rfl rfl ?_
 intro fr w hS
 replace hS : K.Sat w0 [fr] w := hS
 refine K.s (K.g ?_)
 refine K.l (K.OW.gnew 23 [.int .i64 c.th, .int .i64 c.sl, .int .i64 c.lo, .int .i64 c.bu] hS ?_)
 clear hS; intro w r_1 g_2 hg_3 hS
 refine K.q [.int .i64 0] (K.z (K.t (K.s (K.g ?_))))
 refine K.a (K.QR.ldN [.int .i64 c.th, .int .i64 c.sl, .int .i64 c.lo, .int .i64 c.bu] rfl rfl (by kernel_rfl) (by kernel_rfl) (K.cells (K.cl ((hS.blk 0 rfl hg_3).cell rfl) (K.cl ((hS.blk 0 rfl hg_3).cell rfl) (K.cl ((hS.blk 0 rfl hg_3).cell rfl) (K.cl ((hS.blk 0 rfl hg_3).cell rfl) K.cl0)))))) ?_
 refine K.q [.int .i64 s] ?_
 refine K.a (K.QR.bd [(0, .int .i64 16), (1, .int .i64 s)] [.int .i64 16, .int .i64 s, .int .i64 0] rfl rfl (by kernel_rfl)) ?_
 refine K.l (K.OW.gcall hS [] [0, 1] [.agg #[.int .i64 c.th, .int .i64 c.sl, .int .i64 c.lo, .int .i64 c.bu], .agg #[.int .i64 16, .int .i64 s, .int .i64 0]] (at_ok _ c (⟨16, s, 0⟩ : Nm) (by assumption)) ?_)
 clear hS; rintro _ _ w ⟨rfl, rfl⟩ hS
 replace hS : K.Sat w0 [g_2, fr] w := hS
 refine K.q [.int .i64 (atT (lasting c) (passing c) (⟨16, s, 0⟩ : Nm))] (K.z (K.t (K.r ?_)))
 refine ⟨.inr rfl, rfl, (.int .i64 (atT (lasting c) (passing c) (⟨16, s, 0⟩ : Nm))), K.res1 rfl rfl, [], ?_, hS.pick [1]⟩
 exact ⟨congrArg (Value.int .i64) (at_ann hc s), rfl⟩
end Go.Proofs.YtajkickofkeemaaGreat
