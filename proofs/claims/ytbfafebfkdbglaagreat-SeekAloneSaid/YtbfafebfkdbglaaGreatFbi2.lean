/- Bits: links and entries. -/
import Derived.Test.YtbfafebfkdbglaaGreatFbi
import Derived.Test.YtbfafebfkdbglaaGreatKn
namespace Go.Proofs.YtbfafebfkdbglaaGreat
open Go.RowKit
set_option linter.unusedVariables false
attribute [local irreducible] K.KW K.RW K.DW K.OW K.QR K.KC
theorem and7 {w : Int} (h : isW w) : K.andK .u64 w 127 = w % 128 := by
 unfold isW at h
 obtain ⟨n, rfl⟩ : ∃ n : Nat, w = n := ⟨w.toNat, by omega⟩
 have e : (BitVec.ofInt 64 (n : Int) &&& BitVec.ofInt 64 127).toNat = n % 128 := by
  rw [BitVec.toNat_and, bv64 n (by omega), show (BitVec.ofInt 64 127).toNat = 127 by decide]
  exact Nat.and_two_pow_sub_one_eq_mod n 7
 show IntKind.u64.wrap (((BitVec.ofInt 64 (n : Int) &&& BitVec.ofInt 64 127).toNat : Nat) : Int) = _
 rw [e, wrap64 (by unfold isW; omega)]; omega
theorem shl32 {b : Int} (hb : 0 ≤ b ∧ b < 4294967296) : K.shlN .u64 b 32 = b * 4294967296 := by
 unfold K.shlN
 rw [show (b * 2 ^ 32 : Int) = b * 4294967296 by omega]
 exact wrap64 (by unfold isW; omega)
theorem orB {a b : Int} (ha : 0 ≤ a ∧ a < 4294967296) (hb : 0 ≤ b ∧ b < 4294967296) : K.orK .u64 a (b * 4294967296) = a + b * 4294967296 := by rw [← shl32 hb, or32 ha hb, shl32 hb]
theorem more_mod7 (x : Int) : IntKind.u64.wrap (IntKind.u64.wrap x + 1) % 128 = (x + 1) % 128 := by rw [wrapU, wrapU]; omega
def linkI (to by_ : Int) : Int := (to + 1) % 4294967296 + (by_ + 1) % 128 * 4294967296
def byI (w : Int) : Int := w / 4294967296 % 128 - 1
theorem linkI_w (a b : Int) : isW (linkI a b) := by unfold isW linkI; omega
set_option maxHeartbeats 1000000 in
set_option maxRecDepth 100000 in
theorem mask7_ok (w0 : World)  :
  K.GC Tryz.prog w0 158 #[.int .i64 7] [] (fun v post => v = .int .u64 127 ∧ post = []) := by
 refine K.GC.mk (n := 6) Tryz.func158 rfl rfl [.int .i64 7] rfl rfl ?_
 intro fr w hS
 replace hS : K.Sat w0 [fr] w := hS
 refine K.s (K.g (K.q [.int .u64 0] (K.z (K.t (K.s (K.g (K.q [.int .i64 7, .int .u64 128, .int .u64 127, .int .u64 127] (K.z (K.t (K.r ?_))))))))))
 refine ⟨.inr rfl, rfl, (.int .u64 127), K.res1 rfl rfl, [], ?_, hS.pick [0]⟩
 exact ⟨rfl, rfl⟩
set_option maxHeartbeats 1000000 in
set_option maxRecDepth 100000 in
theorem field32_7_ok (w0 : World)  :
  K.GC Tryz.prog w0 107 #[.int .i64 32, .int .i64 7] [] (fun v post => ∃ b c g1 g2, v = .tuple #[.func (.func 157) [].toArray [.pointer (some ⟨b, 0, none⟩), .pointer (some ⟨c, 0, none⟩)].toArray, .func (.func 159) [].toArray [.pointer (some ⟨c, 0, none⟩), .pointer (some ⟨b, 0, none⟩)].toArray] ∧ post = [g1, g2] ∧ g1 = [K.pt b 3 [.int .i64 32]] ∧ g2 = [K.pt c 3 [.int .i64 7]]) := by
 refine K.GC.mk (n := 10) Tryz.func107 rfl rfl [.int .i64 32, .int .i64 7] rfl rfl ?_
 intro fr w hS
 replace hS : K.Sat w0 [fr] w := hS
 refine K.s (K.g ?_)
 refine K.l (K.OW.gnew 3 [.int .i64 32] hS ?_)
 clear hS; intro w r_1 g_2 hg_3 hS
 refine K.l (K.OW.gnew 3 [.int .i64 7] hS ?_)
 clear hS; intro w r_4 g_5 hg_6 hS
 refine K.q [.nilFunc, .nilFunc] (K.z (K.t (K.s (K.g ?_))))
 refine K.a (K.QR.fn [] [.pointer (some ⟨r_1, 0, none⟩), .pointer (some ⟨r_4, 0, none⟩)] rfl rfl rfl) ?_
 refine K.q [.func (.func 157) [].toArray [.pointer (some ⟨r_1, 0, none⟩), .pointer (some ⟨r_4, 0, none⟩)].toArray] (K.z (K.t (K.s (K.g ?_))))
 refine K.a (K.QR.fn [] [.pointer (some ⟨r_4, 0, none⟩), .pointer (some ⟨r_1, 0, none⟩)] rfl rfl rfl) ?_
 refine K.q [.func (.func 159) [].toArray [.pointer (some ⟨r_4, 0, none⟩), .pointer (some ⟨r_1, 0, none⟩)].toArray] (K.z (K.t (K.s (K.g (K.q [.func (.func 157) [].toArray [.pointer (some ⟨r_1, 0, none⟩), .pointer (some ⟨r_4, 0, none⟩)].toArray, .func (.func 159) [].toArray [.pointer (some ⟨r_4, 0, none⟩), .pointer (some ⟨r_1, 0, none⟩)].toArray, .func (.func 157) [].toArray [.pointer (some ⟨r_1, 0, none⟩), .pointer (some ⟨r_4, 0, none⟩)].toArray, .func (.func 159) [].toArray [.pointer (some ⟨r_4, 0, none⟩), .pointer (some ⟨r_1, 0, none⟩)].toArray] (K.z (K.t (K.r ?_))))))))
 refine ⟨.inr rfl, rfl, (.tuple #[.func (.func 157) [].toArray [.pointer (some ⟨r_1, 0, none⟩), .pointer (some ⟨r_4, 0, none⟩)].toArray, .func (.func 159) [].toArray [.pointer (some ⟨r_4, 0, none⟩), .pointer (some ⟨r_1, 0, none⟩)].toArray]), K.res2 rfl rfl rfl, [g_2, g_5], ?_, hS.pick [1, 0, 2]⟩
 exact ⟨_, _, _, _, rfl, rfl, hg_3, hg_6⟩
set_option maxHeartbeats 1000000 in
set_option maxRecDepth 100000 in
theorem cut32_7_ok (w0 : World) (x : Int) (hx : isW x) (b c : Nat) (g1 g2 : K.Cs) (h1 : g1 = [K.pt b 3 [.int .i64 32]]) (h2 : g2 = [K.pt c 3 [.int .i64 7]]) :
  K.GC Tryz.prog w0 157 #[.int .u64 x, .pointer (some ⟨b, 0, none⟩), .pointer (some ⟨c, 0, none⟩)] [g1, g2] (fun v post => v = .int .u64 (x / 4294967296 % 128) ∧ post = [g1, g2]) := by
 have hx2 := hx
 unfold isW at hx2
 refine K.GC.mk (n := 11) Tryz.func157 rfl rfl [.int .u64 x, .pointer (some ⟨b, 0, none⟩), .pointer (some ⟨c, 0, none⟩)] rfl rfl ?_
 intro fr w hS
 replace hS : K.Sat w0 [g1, g2, fr] w := hS
 refine K.s (K.g (K.q [.int .u64 0] (K.z (K.t (K.s ?_)))))
 refine K.KW.gdrawn [0] hS (by kernel_rfl) ?_
 clear hS; intro w hS
 refine K.p 0 rfl (.int .u64 x) (hS.pick [0]) ?_
 refine K.o_ 1 rfl (.int .i64 32) (fun w hS => ((hS.blk 0 rfl h1).cell rfl)) (hS.pick [0]) ?_
 refine K.m 2 rfl (fun w hS => K.QR.shr (m := 32) rfl rfl rfl (by show _ ≤ 64; omega) (by omega)) (hS.pick [0]) ?_
 refine K.c 3 rfl (K.QR.ld1 (v := .int .i64 7) rfl rfl (by kernel_rfl) ((hS.blk 1 rfl h2).cell rfl)) (hS.pick [0]) ?_
 refine K.DW.l 4 rfl (by kernel_rfl) rfl (K.OW.gcall hS [] [0, 1, 2] [.int .i64 7] (mask7_ok _) ?_)
 clear hS; rintro _ _ w ⟨rfl, rfl⟩ hS
 replace hS : K.Sat w0 [g1, g2, fr] w := hS
 refine ⟨.inl (hS.pick [0]), ?_⟩
 refine K.c 5 rfl (K.QR.and rfl rfl rfl) (hS.pick [0]) ?_
 refine K.b 6 rfl (.int .u64 (K.andK .u64 ((x : Int) / 2 ^ (32)) 127)) (hS.pick [0]) ?_
 refine K.DW.done (by kernel_rfl) ?_
 refine K.t (K.r ?_)
 refine ⟨.inr rfl, rfl, (.int .u64 (K.andK .u64 ((x : Int) / 2 ^ (32)) 127)), K.res1 rfl rfl, [g1, g2], ?_, hS.pick [0, 1, 2]⟩
 exact ⟨congrArg (Value.int .u64) (by rw [show (x : Int) / 2 ^ 32 = x / 4294967296 by omega]; exact and7 (by unfold isW; omega)), rfl⟩
set_option maxHeartbeats 1000000 in
set_option maxRecDepth 100000 in
theorem put32_7_ok (w0 : World) (x : Int) (hx : isW x) (b c : Nat) (g1 g2 : K.Cs) (h1 : g1 = [K.pt b 3 [.int .i64 32]]) (h2 : g2 = [K.pt c 3 [.int .i64 7]]) :
  K.GC Tryz.prog w0 159 #[.int .u64 x, .pointer (some ⟨c, 0, none⟩), .pointer (some ⟨b, 0, none⟩)] [g1, g2] (fun v post => v = .int .u64 (x % 128 * 4294967296) ∧ post = [g1, g2]) := by
 have hx2 := hx
 unfold isW at hx2
 refine K.GC.mk (n := 11) Tryz.func159 rfl rfl [.int .u64 x, .pointer (some ⟨c, 0, none⟩), .pointer (some ⟨b, 0, none⟩)] rfl rfl ?_
 intro fr w hS
 replace hS : K.Sat w0 [g1, g2, fr] w := hS
 refine K.s (K.g (K.q [.int .u64 0] (K.z (K.t (K.s ?_)))))
 refine K.KW.gdrawn [0, 1] hS (by kernel_rfl) ?_
 clear hS; intro w hS
 refine K.p 0 rfl (.int .u64 x) (hS.pick [0, 1]) ?_
 refine K.o_ 1 rfl (.int .i64 7) (fun w hS => ((hS.blk 1 rfl h2).cell rfl)) (hS.pick [0, 1]) ?_
 refine K.o_ 4 rfl (.int .i64 32) (fun w hS => ((hS.blk 0 rfl h1).cell rfl)) (hS.pick [0, 1]) ?_
 refine K.DW.l 2 rfl (by kernel_rfl) rfl (K.OW.gcall hS [] [0, 1, 2] [.int .i64 7] (mask7_ok _) ?_)
 clear hS; rintro _ _ w ⟨rfl, rfl⟩ hS
 replace hS : K.Sat w0 [g1, g2, fr] w := hS
 refine ⟨.inl (hS.pick [0, 1]), ?_⟩
 refine K.c 3 rfl (K.QR.and rfl rfl rfl) (hS.pick [0, 1]) ?_
 refine K.c 5 rfl (K.QR.shl (m := 32) rfl rfl rfl (by show _ ≤ 64; omega)) (hS.pick [0, 1]) ?_
 refine K.b 6 rfl (.int .u64 (K.shlN .u64 (K.andK .u64 x 127) 32)) (hS.pick [0, 1]) ?_
 refine K.DW.done (by kernel_rfl) ?_
 refine K.t (K.r ?_)
 refine ⟨.inr rfl, rfl, (.int .u64 (K.shlN .u64 (K.andK .u64 x 127) 32)), K.res1 rfl rfl, [g1, g2], ?_, hS.pick [0, 1, 2]⟩
 exact ⟨congrArg (Value.int .u64) (by rw [and7 hx]; exact shl32 (by omega)), rfl⟩
set_option maxHeartbeats 1000000 in
set_option maxRecDepth 100000 in
theorem link_ok (w0 : World) (x y : Int) (hx : isInt x) (hy : isInt y) :
  K.GC Tryz.prog w0 58 #[.int .i64 x, .int .i64 y] [] (fun v_ post => v_ = .int .u64 (linkI x y) ∧ post = []) := by
 have hmx := more_w x
 have hm2x := hmx
 unfold isW at hm2x
 have hmy := more_w y
 have hm2y := hmy
 unfold isW at hm2y
 refine K.GC.mk (n := 26) Tryz.func58 rfl rfl [.int .i64 x, .int .i64 y] rfl rfl ?_
 intro fr w hS
 replace hS : K.Sat w0 [fr] w := hS
 refine K.s (K.g (K.q [.int .u64 0] (K.z (K.t (K.s (K.g ?_))))))
 refine K.l (K.OW.gcall hS [] [0] [.int .i64 0, .int .i64 32] (field_ok _) ?_)
 clear hS; rintro _ _ w ⟨b_1, c_2, g_3, h_4, rfl, rfl, x_5, y_6⟩ hS
 replace hS : K.Sat w0 [g_3, h_4, fr] w := hS
 refine K.q [.tuple #[.func (.func 157) [].toArray [.pointer (some ⟨b_1, 0, none⟩), .pointer (some ⟨c_2, 0, none⟩)].toArray, .func (.func 159) [].toArray [.pointer (some ⟨c_2, 0, none⟩), .pointer (some ⟨b_1, 0, none⟩)].toArray], .func (.func 157) [].toArray [.pointer (some ⟨b_1, 0, none⟩), .pointer (some ⟨c_2, 0, none⟩)].toArray, .func (.func 159) [].toArray [.pointer (some ⟨c_2, 0, none⟩), .pointer (some ⟨b_1, 0, none⟩)].toArray, .func (.func 157) [].toArray [.pointer (some ⟨b_1, 0, none⟩), .pointer (some ⟨c_2, 0, none⟩)].toArray, .func (.func 159) [].toArray [.pointer (some ⟨c_2, 0, none⟩), .pointer (some ⟨b_1, 0, none⟩)].toArray] (K.z (K.t (K.s (K.g ?_))))
 refine K.l (K.OW.gcall hS [] [0, 1, 2] [.int .i64 32, .int .i64 7] (field32_7_ok _) ?_)
 clear hS; rintro _ _ w ⟨b_7, c_8, g_9, h_10, rfl, rfl, x_11, y_12⟩ hS
 replace hS : K.Sat w0 [g_9, h_10, g_3, h_4, fr] w := hS
 refine K.q [.tuple #[.func (.func 157) [].toArray [.pointer (some ⟨b_7, 0, none⟩), .pointer (some ⟨c_8, 0, none⟩)].toArray, .func (.func 159) [].toArray [.pointer (some ⟨c_8, 0, none⟩), .pointer (some ⟨b_7, 0, none⟩)].toArray], .func (.func 157) [].toArray [.pointer (some ⟨b_7, 0, none⟩), .pointer (some ⟨c_8, 0, none⟩)].toArray, .func (.func 159) [].toArray [.pointer (some ⟨c_8, 0, none⟩), .pointer (some ⟨b_7, 0, none⟩)].toArray, .func (.func 157) [].toArray [.pointer (some ⟨b_7, 0, none⟩), .pointer (some ⟨c_8, 0, none⟩)].toArray, .func (.func 159) [].toArray [.pointer (some ⟨c_8, 0, none⟩), .pointer (some ⟨b_7, 0, none⟩)].toArray] (K.z (K.t (K.s (K.g (K.q [.func (.func 159) [].toArray [.pointer (some ⟨c_2, 0, none⟩), .pointer (some ⟨b_1, 0, none⟩)].toArray, .int .i64 x] ?_)))))
 refine K.l (K.OW.gcall hS [] [0, 1, 2, 3, 4] [.int .i64 x] (more_ok _ x (by omega)) ?_)
 clear hS; rintro _ _ w ⟨rfl, rfl⟩ hS
 replace hS : K.Sat w0 [g_9, h_10, g_3, h_4, fr] w := hS
 refine K.l (K.OW.gcallw hS [2, 3] [0, 1, 4] [.int .u64 (IntKind.u64.wrap (IntKind.u64.wrap x + 1)), .pointer (some ⟨c_2, 0, none⟩), .pointer (some ⟨b_1, 0, none⟩)] (put32_ok _ (IntKind.u64.wrap (IntKind.u64.wrap x + 1)) (by unfold isW; omega) _ _ _ _ x_5 y_6) ?_)
 clear hS; rintro _ _ w ⟨rfl, rfl⟩ hS
 replace hS : K.Sat w0 [g_3, h_4, g_9, h_10, fr] w := hS
 refine K.q [.func (.func 159) [].toArray [.pointer (some ⟨c_8, 0, none⟩), .pointer (some ⟨b_7, 0, none⟩)].toArray, .int .i64 y] ?_
 refine K.l (K.OW.gcall hS [] [0, 1, 2, 3, 4] [.int .i64 y] (more_ok _ y (by omega)) ?_)
 clear hS; rintro _ _ w ⟨rfl, rfl⟩ hS
 replace hS : K.Sat w0 [g_3, h_4, g_9, h_10, fr] w := hS
 refine K.l (K.OW.gcallw hS [2, 3] [0, 1, 4] [.int .u64 (IntKind.u64.wrap (IntKind.u64.wrap y + 1)), .pointer (some ⟨c_8, 0, none⟩), .pointer (some ⟨b_7, 0, none⟩)] (put32_7_ok _ (IntKind.u64.wrap (IntKind.u64.wrap y + 1)) (by first | assumption | (unfold isW; omega)) _ _ _ _ x_11 y_12) ?_)
 clear hS; rintro _ _ w ⟨rfl, rfl⟩ hS
 replace hS : K.Sat w0 [g_9, h_10, g_3, h_4, fr] w := hS
 refine K.a (K.QR.or rfl rfl rfl) ?_
 refine K.q [.int .u64 (K.orK .u64 (((IntKind.u64.wrap (IntKind.u64.wrap x + 1)) : Int) % 4294967296) ((IntKind.u64.wrap (IntKind.u64.wrap y + 1)) % 128 * 4294967296 : Int))] (K.z (K.t (K.r ?_)))
 refine ⟨.inr rfl, rfl, (.int .u64 (K.orK .u64 (((IntKind.u64.wrap (IntKind.u64.wrap x + 1)) : Int) % 4294967296) ((IntKind.u64.wrap (IntKind.u64.wrap y + 1)) % 128 * 4294967296 : Int))), K.res1 rfl rfl, [], ?_, hS.pick [4]⟩
 exact ⟨congrArg (Value.int .u64) (by rw [more_mod, more_mod7, orB (by omega) (by omega)]; rfl), rfl⟩
end Go.Proofs.YtbfafebfkdbglaaGreat
