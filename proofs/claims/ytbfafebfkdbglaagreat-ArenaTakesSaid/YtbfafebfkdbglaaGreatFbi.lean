import Derived.Test.YtbfafebfkdbglaaGreatFgr2
import Derived.Test.YtbfafebfkdbglaaGreatFlist
/- Bits: slots and versions of words. -/
namespace Go.Proofs.YtbfafebfkdbglaaGreat
open Go.RowKit
set_option linter.unusedVariables false
attribute [local irreducible] K.KW K.RW K.DW K.OW K.QR K.KC
def isW (w : Int) : Prop := 0 ≤ w ∧ w ≤ 18446744073709551615
theorem wrap64 {x : Int} (h : isW x) : IntKind.u64.wrap x = x := by
 have : IntKind.u64.wrap x = x % 18446744073709551616 := by simp [IntKind.wrap, IntKind.bits, IntKind.signed]
 rw [this]; unfold isW at h; omega
theorem bv64 (n : Nat) (h : n ≤ 18446744073709551615) : (BitVec.ofInt 64 (n : Int)).toNat = n := by rw [BitVec.toNat_ofInt]; omega
theorem and32 {w : Int} (h : isW w) : K.andK .u64 w 4294967295 = w % 4294967296 := by
 unfold isW at h
 obtain ⟨n, rfl⟩ : ∃ n : Nat, w = n := ⟨w.toNat, by omega⟩
 have e : (BitVec.ofInt 64 (n : Int) &&& BitVec.ofInt 64 4294967295).toNat = n % 4294967296 := by
  rw [BitVec.toNat_and, bv64 n (by omega), show (BitVec.ofInt 64 4294967295).toNat = 4294967295 by decide]
  exact Nat.and_two_pow_sub_one_eq_mod n 32
 show IntKind.u64.wrap (((BitVec.ofInt 64 (n : Int) &&& BitVec.ofInt 64 4294967295).toNat : Nat) : Int) = _
 rw [e, wrap64 (by unfold isW; omega)]; omega
theorem or32 {a b : Int} (ha : 0 ≤ a ∧ a < 4294967296) (hb : 0 ≤ b ∧ b < 4294967296) : K.orK .u64 a (K.shlN .u64 b 32) = a + b * 4294967296 := by
 obtain ⟨n, rfl⟩ : ∃ n : Nat, a = n := ⟨a.toNat, by omega⟩
 obtain ⟨m, rfl⟩ : ∃ m : Nat, b = m := ⟨b.toNat, by omega⟩
 have h1 : K.shlN .u64 (m : Int) 32 = ((m * 4294967296 : Nat) : Int) := by
  unfold K.shlN
  rw [show ((m : Int) * 2 ^ 32) = ((m * 4294967296 : Nat) : Int) by omega]
  exact wrap64 (by unfold isW; omega)
 rw [h1]
 have e : (BitVec.ofInt 64 (n : Int) ||| BitVec.ofInt 64 ((m * 4294967296 : Nat) : Int)).toNat = n + m * 4294967296 := by
  rw [BitVec.toNat_or, bv64 n (by omega), bv64 (m * 4294967296) (by omega)]
  have := Nat.shiftLeft_add_eq_or_of_lt (b := n) (i := 32) (by omega) m
  rw [Nat.shiftLeft_eq, show (2 : Nat) ^ 32 = 4294967296 by decide] at this
  rw [Nat.or_comm]
  omega
 show IntKind.u64.wrap (((BitVec.ofInt 64 (n : Int) ||| BitVec.ofInt 64 ((m * 4294967296 : Nat) : Int)).toNat : Nat) : Int) = _
 rw [e, wrap64 (by unfold isW; omega)]; omega
/-- the slot of a word -/
def toI (w : Int) : Int := w % 4294967296 - 1
def verI (w : Int) : Int := w / 4294967296 % 4294967296
/-- a top: a slot, and how often it was put -/
def topI (slot ver : Int) : Int := (slot + 1) % 4294967296 + ver * 4294967296
def newerI (slot was : Int) : Int := topI slot ((verI was + 1) % 4294967296)
theorem topI_w {s v : Int} (hv : 0 ≤ v ∧ v < 4294967296) : isW (topI s v) := by unfold isW topI; omega
theorem newerI_w (s w : Int) : isW (newerI s w) := topI_w (by omega)
set_option maxHeartbeats 1000000 in
set_option maxRecDepth 100000 in
theorem mask32_ok (w0 : World)  :
  K.GC Tryz.prog w0 158 #[K.iv 32] [] (fun v post => v = .int .u64 4294967295 ∧ post = []) := by
 refine K.GC.mk (n := 6) Tryz.func158 rfl rfl [K.iv 32] rfl rfl ?_
 intro fr w hS
 replace hS : K.Sat w0 [fr] w := hS
 refine K.s (K.g (K.q [.int .u64 0] (K.z (K.t (K.s (K.g (K.q [K.iv 32, .int .u64 4294967296, .int .u64 4294967295, .int .u64 4294967295] (K.z (K.t (K.r ?_))))))))))
 refine ⟨.inr rfl, rfl, (.int .u64 4294967295), K.res1 rfl rfl, [], ?_, hS.pick [0]⟩
 exact ⟨rfl, rfl⟩
set_option maxHeartbeats 1000000 in
set_option maxRecDepth 100000 in
theorem field_ok (w0 : World)  :
  K.GC Tryz.prog w0 107 #[K.iv 0, K.iv 32] [] (fun v post => ∃ b c g1 g2, v = .tuple #[.func (.func 157) [].toArray [K.pa b, K.pa c].toArray, .func (.func 159) [].toArray [K.pa c, K.pa b].toArray] ∧ post = [g1, g2] ∧ g1 = [K.pt b 3 [K.iv 0]] ∧ g2 = [K.pt c 3 [K.iv 32]]) := by
 refine K.GC.mk (n := 10) Tryz.func107 rfl rfl [K.iv 0, K.iv 32] rfl rfl ?_
 intro fr w hS
 replace hS : K.Sat w0 [fr] w := hS
 refine K.s (K.g ?_)
 refine K.l (K.OW.gnew 3 [K.iv 0] hS ?_)
 clear hS; intro w r_1 g_2 hg_3 hS
 refine K.l (K.OW.gnew 3 [K.iv 32] hS ?_)
 clear hS; intro w r_4 g_5 hg_6 hS
 refine K.q [.nilFunc, .nilFunc] (K.z (K.t (K.s (K.g ?_))))
 refine K.a (K.QR.fn [] [K.pa r_1, K.pa r_4] rfl rfl rfl) ?_
 refine K.q [.func (.func 157) [].toArray [K.pa r_1, K.pa r_4].toArray] (K.z (K.t (K.s (K.g ?_))))
 refine K.a (K.QR.fn [] [K.pa r_4, K.pa r_1] rfl rfl rfl) ?_
 refine K.q [.func (.func 159) [].toArray [K.pa r_4, K.pa r_1].toArray] (K.z (K.t (K.s (K.g (K.q [.func (.func 157) [].toArray [K.pa r_1, K.pa r_4].toArray, .func (.func 159) [].toArray [K.pa r_4, K.pa r_1].toArray, .func (.func 157) [].toArray [K.pa r_1, K.pa r_4].toArray, .func (.func 159) [].toArray [K.pa r_4, K.pa r_1].toArray] (K.z (K.t (K.r ?_))))))))
 refine ⟨.inr rfl, rfl, (.tuple #[.func (.func 157) [].toArray [K.pa r_1, K.pa r_4].toArray, .func (.func 159) [].toArray [K.pa r_4, K.pa r_1].toArray]), K.res2 rfl rfl rfl, [g_2, g_5], ?_, hS.pick [1, 0, 2]⟩
 exact ⟨_, _, _, _, rfl, rfl, hg_3, hg_6⟩
set_option maxHeartbeats 1000000 in
set_option maxRecDepth 100000 in
theorem cut32_ok (w0 : World) (x : Int) (hx : isW x) (b c : Nat) (g1 g2 : K.Cs) (h1 : g1 = [K.pt b 3 [K.iv 0]]) (h2 : g2 = [K.pt c 3 [K.iv 32]]) :
  K.GC Tryz.prog w0 157 #[.int .u64 x, K.pa b, K.pa c] [g1, g2] (fun v post => v = .int .u64 (x % 4294967296) ∧ post = [g1, g2]) := by
 have hx2 := hx
 unfold isW at hx2
 refine K.GC.mk (n := 11) Tryz.func157 rfl rfl [.int .u64 x, K.pa b, K.pa c] rfl rfl ?_
 intro fr w hS
 replace hS : K.Sat w0 [g1, g2, fr] w := hS
 refine K.s (K.g (K.q [.int .u64 0] (K.z (K.t (K.s ?_)))))
 refine K.KW.gdrawn [0] hS (by kernel_rfl) ?_
 clear hS; intro w hS
 refine K.p 0 rfl (.int .u64 x) (hS.pick [0]) ?_
 refine K.o_ 1 rfl (K.iv 0) (fun w hS => ((hS.blk 0 rfl h1).cell rfl)) (hS.pick [0]) ?_
 refine K.m 2 rfl (fun w hS => K.QR.shr (m := 0) rfl rfl rfl (by show _ ≤ 64; omega) (by omega)) (hS.pick [0]) ?_
 refine K.c 3 rfl (K.QR.ld1 (v := K.iv 32) rfl rfl (by kernel_rfl) ((hS.blk 1 rfl h2).cell rfl)) (hS.pick [0]) ?_
 refine K.DW.l 4 rfl (by kernel_rfl) rfl (K.OW.gcall hS [] [0, 1, 2] [K.iv 32] (mask32_ok _) ?_)
 clear hS; rintro _ _ w ⟨rfl, rfl⟩ hS
 replace hS : K.Sat w0 [g1, g2, fr] w := hS
 refine ⟨.inl (hS.pick [0]), ?_⟩
 refine K.c 5 rfl (K.QR.and rfl rfl rfl) (hS.pick [0]) ?_
 refine K.b 6 rfl (.int .u64 (K.andK .u64 ((x : Int) / 2 ^ (0)) 4294967295)) (hS.pick [0]) ?_
 refine K.DW.done (by kernel_rfl) ?_
 refine K.t (K.r ?_)
 refine ⟨.inr rfl, rfl, (.int .u64 (K.andK .u64 ((x : Int) / 2 ^ (0)) 4294967295)), K.res1 rfl rfl, [g1, g2], ?_, hS.pick [0, 1, 2]⟩
 exact ⟨congrArg (Value.int .u64) (by rw [show (x : Int) / 2 ^ 0 = x by simp]; exact and32 hx), rfl⟩
set_option maxHeartbeats 1000000 in
set_option maxRecDepth 100000 in
theorem put32_ok (w0 : World) (x : Int) (hx : isW x) (b c : Nat) (g1 g2 : K.Cs) (h1 : g1 = [K.pt b 3 [K.iv 0]]) (h2 : g2 = [K.pt c 3 [K.iv 32]]) :
  K.GC Tryz.prog w0 159 #[.int .u64 x, K.pa c, K.pa b] [g1, g2] (fun v post => v = .int .u64 (x % 4294967296) ∧ post = [g1, g2]) := by
 have hx2 := hx
 unfold isW at hx2
 refine K.GC.mk (n := 11) Tryz.func159 rfl rfl [.int .u64 x, K.pa c, K.pa b] rfl rfl ?_
 intro fr w hS
 replace hS : K.Sat w0 [g1, g2, fr] w := hS
 refine K.s (K.g (K.q [.int .u64 0] (K.z (K.t (K.s ?_)))))
 refine K.KW.gdrawn [0, 1] hS (by kernel_rfl) ?_
 clear hS; intro w hS
 refine K.p 0 rfl (.int .u64 x) (hS.pick [0, 1]) ?_
 refine K.o_ 1 rfl (K.iv 32) (fun w hS => ((hS.blk 1 rfl h2).cell rfl)) (hS.pick [0, 1]) ?_
 refine K.o_ 4 rfl (K.iv 0) (fun w hS => ((hS.blk 0 rfl h1).cell rfl)) (hS.pick [0, 1]) ?_
 refine K.DW.l 2 rfl (by kernel_rfl) rfl (K.OW.gcall hS [] [0, 1, 2] [K.iv 32] (mask32_ok _) ?_)
 clear hS; rintro _ _ w ⟨rfl, rfl⟩ hS
 replace hS : K.Sat w0 [g1, g2, fr] w := hS
 refine ⟨.inl (hS.pick [0, 1]), ?_⟩
 refine K.c 3 rfl (K.QR.and rfl rfl rfl) (hS.pick [0, 1]) ?_
 refine K.c 5 rfl (K.QR.shl (m := 0) rfl rfl rfl (by show _ ≤ 64; omega)) (hS.pick [0, 1]) ?_
 refine K.b 6 rfl (.int .u64 (K.shlN .u64 (K.andK .u64 x 4294967295) 0)) (hS.pick [0, 1]) ?_
 refine K.DW.done (by kernel_rfl) ?_
 refine K.t (K.r ?_)
 refine ⟨.inr rfl, rfl, (.int .u64 (K.shlN .u64 (K.andK .u64 x 4294967295) 0)), K.res1 rfl rfl, [g1, g2], ?_, hS.pick [0, 1, 2]⟩
 exact ⟨congrArg (Value.int .u64) (by rw [and32 hx]; unfold K.shlN; rw [show (x % 4294967296 : Int) * 2 ^ 0 = x % 4294967296 by simp]; exact wrap64 (by unfold isW; omega)), rfl⟩
set_option maxHeartbeats 1000000 in
set_option maxRecDepth 100000 in
theorem to_ok (w0 : World) (x : Int) (hx : isW x) :
  K.GC Tryz.prog w0 70 #[.int .u64 x] [] (fun v post => v = K.iv (toI x) ∧ post = []) := by
 have hx2 := hx
 unfold isW at hx2
 refine K.GC.mk (n := 14) Tryz.func70 rfl rfl [.int .u64 x] rfl rfl ?_
 intro fr w hS
 replace hS : K.Sat w0 [fr] w := hS
 refine K.s (K.g (K.q [K.iv 0] (K.z (K.t (K.s (K.g ?_))))))
 refine K.l (K.OW.gcall hS [] [0] [K.iv 0, K.iv 32] (field_ok _) ?_)
 clear hS; rintro _ _ w ⟨b_1, c_2, g_3, h_4, rfl, rfl, x_5, y_6⟩ hS
 replace hS : K.Sat w0 [g_3, h_4, fr] w := hS
 refine K.q [.tuple #[.func (.func 157) [].toArray [K.pa b_1, K.pa c_2].toArray, .func (.func 159) [].toArray [K.pa c_2, K.pa b_1].toArray], .func (.func 157) [].toArray [K.pa b_1, K.pa c_2].toArray, .func (.func 159) [].toArray [K.pa c_2, K.pa b_1].toArray, .func (.func 157) [].toArray [K.pa b_1, K.pa c_2].toArray, .func (.func 159) [].toArray [K.pa c_2, K.pa b_1].toArray] (K.z (K.t (K.s (K.g (K.q [.func (.func 157) [].toArray [K.pa b_1, K.pa c_2].toArray, .int .u64 x] ?_)))))
 refine K.l (K.OW.gcallw hS [0, 1] [2] [.int .u64 x, K.pa b_1, K.pa c_2] (cut32_ok _ x (by unfold isW; omega) _ _ _ _ x_5 y_6) ?_)
 clear hS; rintro _ _ w ⟨rfl, rfl⟩ hS
 replace hS : K.Sat w0 [g_3, h_4, fr] w := hS
 refine K.a (K.QR.nice (v := K.iv (IntKind.i64.wrap ((x : Int) % 4294967296))) (by kernel_rfl) (congrArg (Value.int .i64) (IntWalk.i64_in _ (by omega)))) ?_
 refine K.a (K.QR.n64 (((x : Int) % 4294967296 : Int) + ((-1) : Int)) (((x : Int) % 4294967296 : Int) + ((-1) : Int)) (by kernel_rfl) (by omega)) ?_
 refine K.q [K.iv (((x : Int) % 4294967296 : Int) + ((-1) : Int))] (K.z (K.t (K.r ?_)))
 refine ⟨.inr rfl, rfl, (K.iv (((x : Int) % 4294967296 : Int) + ((-1) : Int))), K.res1 rfl rfl, [], ?_, hS.pick [2]⟩
 exact ⟨congrArg (Value.int .i64) (by unfold toI; omega), rfl⟩
set_option maxHeartbeats 1000000 in
set_option maxRecDepth 100000 in
theorem ver_ok (w0 : World) (x : Int) (hx : isW x) :
  K.GC Tryz.prog w0 182 #[.int .u64 x] [] (fun v post => v = .int .u32 (verI x) ∧ post = []) := by
 have hx2 := hx
 unfold isW at hx2
 refine K.GC.mk (n := 6) Tryz.func182 rfl rfl [.int .u64 x] rfl rfl ?_
 intro fr w hS
 replace hS : K.Sat w0 [fr] w := hS
 refine K.s (K.g (K.q [.int .u32 0] (K.z (K.t (K.s (K.g (K.q [.int .u64 x] ?_)))))))
 refine K.a (K.QR.shr (m := 32) rfl rfl rfl (by show _ ≤ 64; omega) (by omega)) ?_
 refine K.q [.int .u32 (IntKind.u32.wrap ((x : Int) / 2 ^ (32))), .int .u32 (IntKind.u32.wrap ((x : Int) / 2 ^ (32)))] (K.z (K.t (K.r ?_)))
 refine ⟨.inr rfl, rfl, (.int .u32 (IntKind.u32.wrap ((x : Int) / 2 ^ (32)))), K.res1 rfl rfl, [], ?_, hS.pick [0]⟩
 exact ⟨congrArg (Value.int .u32) (by unfold verI; simp [IntKind.wrap, IntKind.bits, IntKind.signed]), rfl⟩
set_option maxHeartbeats 1000000 in
set_option maxRecDepth 100000 in
theorem more_ok (w0 : World) (x : Int) (hx : isInt x) :
  K.GC Tryz.prog w0 108 #[K.iv x] [] (fun v post => v = .int .u64 (IntKind.u64.wrap (IntKind.u64.wrap x + 1)) ∧ post = []) := by
 refine K.GC.mk (n := 6) Tryz.func108 rfl rfl [K.iv x] rfl rfl ?_
 intro fr w hS
 replace hS : K.Sat w0 [fr] w := hS
 refine K.s (K.g (K.q [.int .u64 0] (K.z (K.t (K.s (K.g (K.q [K.iv x, .int .u64 (IntKind.u64.wrap x), .int .u64 (IntKind.u64.wrap ((IntKind.u64.wrap x : Int) + (1 : Int))), .int .u64 (IntKind.u64.wrap ((IntKind.u64.wrap x : Int) + (1 : Int)))] (K.z (K.t (K.r ?_))))))))))
 refine ⟨.inr rfl, rfl, (.int .u64 (IntKind.u64.wrap ((IntKind.u64.wrap x : Int) + (1 : Int)))), K.res1 rfl rfl, [], ?_, hS.pick [0]⟩
 exact ⟨rfl, rfl⟩
theorem wrapU (x : Int) : IntKind.u64.wrap x = x % 18446744073709551616 := by simp [IntKind.wrap, IntKind.bits, IntKind.signed]
theorem more_w (x : Int) : isW (IntKind.u64.wrap (IntKind.u64.wrap x + 1)) := by rw [wrapU]; unfold isW; omega
theorem more_mod (x : Int) : IntKind.u64.wrap (IntKind.u64.wrap x + 1) % 4294967296 = (x + 1) % 4294967296 := by rw [wrapU, wrapU]; omega
set_option maxHeartbeats 1000000 in
set_option maxRecDepth 100000 in
theorem top_ok (w0 : World) (x v : Int) (hx : isInt x) (hv : 0 ≤ v ∧ v < 4294967296) :
  K.GC Tryz.prog w0 153 #[K.iv x, .int .u32 v] [] (fun v_ post => v_ = .int .u64 (topI x v) ∧ post = []) := by
 have hm := more_w x
 have hm2 := hm
 unfold isW at hm2
 refine K.GC.mk (n := 19) Tryz.func153 rfl rfl [K.iv x, .int .u32 v] rfl rfl ?_
 intro fr w hS
 replace hS : K.Sat w0 [fr] w := hS
 refine K.s (K.g (K.q [.int .u64 0] (K.z (K.t (K.s (K.g ?_))))))
 refine K.l (K.OW.gcall hS [] [0] [K.iv 0, K.iv 32] (field_ok _) ?_)
 clear hS; rintro _ _ w ⟨b_1, c_2, g_3, h_4, rfl, rfl, x_5, y_6⟩ hS
 replace hS : K.Sat w0 [g_3, h_4, fr] w := hS
 refine K.q [.tuple #[.func (.func 157) [].toArray [K.pa b_1, K.pa c_2].toArray, .func (.func 159) [].toArray [K.pa c_2, K.pa b_1].toArray], .func (.func 157) [].toArray [K.pa b_1, K.pa c_2].toArray, .func (.func 159) [].toArray [K.pa c_2, K.pa b_1].toArray, .func (.func 157) [].toArray [K.pa b_1, K.pa c_2].toArray, .func (.func 159) [].toArray [K.pa c_2, K.pa b_1].toArray] (K.z (K.t (K.s (K.g (K.q [.func (.func 159) [].toArray [K.pa c_2, K.pa b_1].toArray, K.iv x] ?_)))))
 refine K.l (K.OW.gcall hS [] [0, 1, 2] [K.iv x] (more_ok _ x (by omega)) ?_)
 clear hS; rintro _ _ w ⟨rfl, rfl⟩ hS
 replace hS : K.Sat w0 [g_3, h_4, fr] w := hS
 refine K.l (K.OW.gcallw hS [0, 1] [2] [.int .u64 (IntKind.u64.wrap (IntKind.u64.wrap x + 1)), K.pa c_2, K.pa b_1] (put32_ok _ (IntKind.u64.wrap (IntKind.u64.wrap x + 1)) (by unfold isW; omega) _ _ _ _ x_5 y_6) ?_)
 clear hS; rintro _ _ w ⟨rfl, rfl⟩ hS
 replace hS : K.Sat w0 [g_3, h_4, fr] w := hS
 refine K.q [.int .u32 v] ?_
 refine K.a (K.QR.nice (v := .int .u64 (IntKind.u64.wrap v)) (by kernel_rfl) (congrArg (Value.int .u64) (IntWalk.u64_in _ (by omega)))) ?_
 refine K.a (K.QR.shl (m := 32) rfl rfl rfl (by show _ ≤ 64; omega)) ?_
 refine K.a (K.QR.or rfl rfl rfl) ?_
 refine K.q [.int .u64 (K.orK .u64 (((IntKind.u64.wrap (IntKind.u64.wrap x + 1)) : Int) % 4294967296) (K.shlN .u64 v 32))] (K.z (K.t (K.r ?_)))
 refine ⟨.inr rfl, rfl, (.int .u64 (K.orK .u64 (((IntKind.u64.wrap (IntKind.u64.wrap x + 1)) : Int) % 4294967296) (K.shlN .u64 v 32))), K.res1 rfl rfl, [], ?_, hS.pick [2]⟩
 exact ⟨congrArg (Value.int .u64) (by rw [more_mod, or32 (by omega) hv]; rfl), rfl⟩
set_option maxHeartbeats 1000000 in
set_option maxRecDepth 100000 in
theorem newer_ok (w0 : World) (x w_ : Int) (hx : isInt x) (hw : isW w_) :
  K.GC Tryz.prog w0 154 #[K.iv x, .int .u64 w_] [] (fun v post => v = .int .u64 (newerI x w_) ∧ post = []) := by
 have hvv : 0 ≤ verI w_ := by unfold verI; omega
 have hq : IntKind.u32.wrap (verI w_ + 1) = (verI w_ + 1) % 4294967296 := by simp [IntKind.wrap, IntKind.bits, IntKind.signed]
 have hq2 : 0 ≤ IntKind.u32.wrap (verI w_ + 1) ∧ IntKind.u32.wrap (verI w_ + 1) < 4294967296 := by rw [hq]; omega
 refine K.GC.mk (n := 10) Tryz.func154 rfl rfl [K.iv x, .int .u64 w_] rfl rfl ?_
 intro fr w hS
 replace hS : K.Sat w0 [fr] w := hS
 refine K.s (K.g (K.q [.int .u64 0] (K.z (K.t (K.s (K.g (K.q [K.iv x, .int .u64 w_] ?_)))))))
 refine K.l (K.OW.gcall hS [] [0] [.int .u64 w_] (ver_ok _ w_ (by first | assumption | (unfold isW; omega))) ?_)
 clear hS; rintro _ _ w ⟨rfl, rfl⟩ hS
 replace hS : K.Sat w0 [fr] w := hS
 refine K.q [.int .u32 (IntKind.u32.wrap (((verI w_) : Int) + (1 : Int)))] ?_
 refine K.l (K.OW.gcall hS [] [0] [K.iv x, .int .u32 (IntKind.u32.wrap (((verI w_) : Int) + (1 : Int)))] (top_ok _ x (IntKind.u32.wrap (((verI w_) : Int) + (1 : Int))) (by first | omega | (unfold toI; omega)) (by first | omega | decide)) ?_)
 clear hS; rintro _ _ w ⟨rfl, rfl⟩ hS
 replace hS : K.Sat w0 [fr] w := hS
 refine K.q [.int .u64 (topI x (IntKind.u32.wrap (((verI w_) : Int) + (1 : Int))))] (K.z (K.t (K.r ?_)))
 refine ⟨.inr rfl, rfl, (.int .u64 (topI x (IntKind.u32.wrap (((verI w_) : Int) + (1 : Int))))), K.res1 rfl rfl, [], ?_, hS.pick [0]⟩
 exact ⟨congrArg (Value.int .u64) (by unfold newerI; rw [← hq]), rfl⟩
end Go.Proofs.YtbfafebfkdbglaaGreat
