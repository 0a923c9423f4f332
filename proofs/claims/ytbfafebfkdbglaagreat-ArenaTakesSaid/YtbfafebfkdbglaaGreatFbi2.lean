import Derived.Test.YtbfafebfkdbglaaGreatFbi
import Derived.Test.YtbfafebfkdbglaaGreatFlist
/- Bits: links and entries. -/
namespace Go.Proofs.YtbfafebfkdbglaaGreat
open Go.RowKit
set_option linter.unusedVariables false
attribute [local irreducible] K.KW K.RW K.DW K.OW K.QR K.KC
def stampI (w : Int) : Int := w / 4294967296 % 4294967296 - 1
set_option maxHeartbeats 1000000 in
set_option maxRecDepth 100000 in
theorem field32_32_ok (w0 : World)  :
  K.GC Tryz.prog w0 107 #[K.iv 32, K.iv 32] [] (fun v post => ∃ b c g1 g2, v = .tuple #[.func (.func 157) [].toArray [K.pa b, K.pa c].toArray, .func (.func 159) [].toArray [K.pa c, K.pa b].toArray] ∧ post = [g1, g2] ∧ g1 = [K.pt b 3 [K.iv 32]] ∧ g2 = [K.pt c 3 [K.iv 32]]) := by
 refine K.GC.mk (n := 10) Tryz.func107 rfl rfl [K.iv 32, K.iv 32] rfl rfl ?_
 intro fr w hS
 replace hS : K.Sat w0 [fr] w := hS
 refine K.s (K.g ?_)
 refine K.l (K.OW.gnew 3 [K.iv 32] hS ?_)
 clear hS; intro w r_1 g_2 hg_3 hS
 refine K.l (K.OW.gnew 3 [K.iv 32] hS ?_)
 clear hS; intro w r_4 g_5 hg_6 hS
 refine K.q [.nilFunc, .nilFunc] (K.z (K.t (K.s (K.g ?_))))
 refine K.a (K.QR.fn [] [K.pa r_1, K.pa r_4] rfl rfl rfl) ?_
 refine K.q [.func (.func 157) [].toArray [K.pa r_1, K.pa r_4].toArray] (K.z (K.t (K.s (K.g ?_))))
 refine K.a (K.QR.fn [] [K.pa r_4, K.pa r_1] rfl rfl rfl) ?_
 refine K.q [.func (.func 159) [].toArray [K.pa r_4, K.pa r_1].toArray] (K.z (K.t (K.s (K.g (K.q [.func (.func 157) [].toArray [K.pa r_1, K.pa r_4].toArray, .func (.func 159) [].toArray [K.pa r_4, K.pa r_1].toArray, .func (.func 157) [].toArray [K.pa r_1, K.pa r_4].toArray, .func (.func 159) [].toArray [K.pa r_4, K.pa r_1].toArray] (K.z (K.t (K.r ?_))))))))
 refine ⟨.inr rfl, rfl, (.tuple #[.func (.func 157) [].toArray [K.pa r_1, K.pa r_4].toArray, .func (.func 159) [].toArray [K.pa r_4, K.pa r_1].toArray]), K.res2 rfl rfl rfl, [g_2, g_5], ?_, hS.pick [1, 0, 2]⟩
 exact ⟨_, _, _, _, rfl, rfl, hg_3, hg_6⟩
set_option maxHeartbeats 1000000 in
set_option maxRecDepth 100000 in
theorem cut32_32_ok (w0 : World) (x : Int) (hx : isW x) (b c : Nat) (g1 g2 : K.Cs) (h1 : g1 = [K.pt b 3 [K.iv 32]]) (h2 : g2 = [K.pt c 3 [K.iv 32]]) :
  K.GC Tryz.prog w0 157 #[.int .u64 x, K.pa b, K.pa c] [g1, g2] (fun v post => v = .int .u64 (x / 4294967296 % 4294967296) ∧ post = [g1, g2]) := by
 have hx2 := hx
 unfold isW at hx2
 refine K.GC.mk (n := 11) Tryz.func157 rfl rfl [.int .u64 x, K.pa b, K.pa c] rfl rfl ?_
 intro fr w hS
 replace hS : K.Sat w0 [g1, g2, fr] w := hS
 refine K.s (K.g (K.q [.int .u64 0] (K.z (K.t (K.s ?_)))))
 refine K.KW.gdrawn [0] hS (by kernel_rfl) ?_
 clear hS; intro w hS
 refine K.p 0 rfl (.int .u64 x) (hS.pick [0]) ?_
 refine K.o_ 1 rfl (K.iv 32) (fun w hS => ((hS.blk 0 rfl h1).cell rfl)) (hS.pick [0]) ?_
 refine K.m 2 rfl (fun w hS => K.QR.shr (m := 32) rfl rfl rfl (by show _ ≤ 64; omega) (by omega)) (hS.pick [0]) ?_
 refine K.c 3 rfl (K.QR.ld1 (v := K.iv 32) rfl rfl (by kernel_rfl) ((hS.blk 1 rfl h2).cell rfl)) (hS.pick [0]) ?_
 refine K.DW.l 4 rfl (by kernel_rfl) rfl (K.OW.gcall hS [] [0, 1, 2] [K.iv 32] (mask32_ok _) ?_)
 clear hS; rintro _ _ w ⟨rfl, rfl⟩ hS
 replace hS : K.Sat w0 [g1, g2, fr] w := hS
 refine ⟨.inl (hS.pick [0]), ?_⟩
 refine K.c 5 rfl (K.QR.and rfl rfl rfl) (hS.pick [0]) ?_
 refine K.b 6 rfl (.int .u64 (K.andK .u64 ((x : Int) / 2 ^ (32)) 4294967295)) (hS.pick [0]) ?_
 refine K.DW.done (by kernel_rfl) ?_
 refine K.t (K.r ?_)
 refine ⟨.inr rfl, rfl, (.int .u64 (K.andK .u64 ((x : Int) / 2 ^ (32)) 4294967295)), K.res1 rfl rfl, [g1, g2], ?_, hS.pick [0, 1, 2]⟩
 exact ⟨congrArg (Value.int .u64) (by rw [show (x : Int) / 2 ^ 32 = x / 4294967296 by omega]; exact and32 (by unfold isW; omega)), rfl⟩
end Go.Proofs.YtbfafebfkdbglaaGreat
