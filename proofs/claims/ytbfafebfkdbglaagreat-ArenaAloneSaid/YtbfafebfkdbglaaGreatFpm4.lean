import Derived.Test.YtbfafebfkdbglaaGreatFpm3
import Derived.Test.YtbfafebfkdbglaaGreatFlist
/- The document's memory: Crash, New. -/
namespace Go.Proofs.YtbfafebfkdbglaaGreat
open Go.RowKit
set_option linter.unusedVariables false
attribute [local irreducible] K.KW K.RW K.DW K.OW K.QR K.KC
set_option maxHeartbeats 1000000 in
set_option maxRecDepth 100000 in
theorem rmNew_ok (w0 : World) (a : Option Addr) (m cap n : Nat) (xs : List Int) (t k : Int) (ht : 1 ≤ t ∧ t ≤ 64) (hn : 1 ≤ n ∧ n ≤ 262144) (lx : xs.length = m) (hm : m = n * 8) (hk : 0 ≤ k ∧ k ≤ 262144) (gx : K.Cs) (hx : ∀ w, K.Sat w0 [gx] w → K.RowE w a xs.length 1 (fun i => cU64 (xs.getD i 0))) :
  K.GC Tryz.prog w0 65 #[.slice a m cap, .int .i64 t, .int .i64 k] [gx] (fun v post => ∃ p q l', v = .pointer (some ⟨p, 0, none⟩) ∧ post = [gx, l'] ∧ RMemAt l' p q n t.toNat (MemM.of (DevM.fresh xs n t.toNat) k.toNat)) := by
 refine K.GC.mk (n := 14) Tryz.func65 rfl rfl [.slice a m cap, .int .i64 t, .int .i64 k] rfl rfl ?_
 intro fr w hS
 replace hS : K.Sat w0 [gx, fr] w := hS
 refine K.s (K.g (K.q [.pointer none] (K.z (K.t (K.s ?_)))))
 refine K.KW.gdrawn [] hS (by kernel_rfl) ?_
 clear hS; intro w hS
 refine K.p 0 rfl (.slice a m cap) (hS.pick []) ?_
 refine K.p 1 rfl (.int .i64 t) (hS.pick []) ?_
 refine K.m 3 rfl (fun w hS => K.QR.turn (v := .int .i64 k) (K.QR.k (v := .int .i64 k) (by kernel_rfl)) (congrArg (Value.int .i64) (show (k : Int) = (((k.toNat : Nat) : Int) : Int) from by omega))) (hS.pick []) ?_
 refine K.DW.l2 2 4 rfl rfl (by kernel_rfl) rfl rfl ?_ ?_
 ·
  refine (K.OW.gcall hS [0] [1] [.slice a m cap, .int .i64 t] (rdOpen_okm _ _ _ _ n xs t (by omega) (by omega) lx (by omega) _ hx) ?_)
  clear hS; rintro _ _ w ⟨p_1, l_2, rfl, rfl, x_3⟩ hS
  replace hS : K.Sat w0 [gx, l_2, fr] w := hS
  refine ⟨.inl (hS.pick []), ?_⟩
  refine K.DW.l 4 rfl (by kernel_rfl) rfl (K.OW.gmk (P := Tryz.prog) (m := k.toNat) (cc := cU64) (z := .int .u64 0) (size := 1) (bytes := 8) (0 : Int) hS ?_ Tryz.underlying78 (by kernel_rfl) rfl rfl (by unfold maxLen; omega) (by omega))
  clear hS; intro w r_4 l_5 o_6 hS
  refine ⟨.inl (hS.pick []), ?_⟩
  refine K.c 5 rfl (K.QR.bd [(0, .pointer (some ⟨p_1, 0, none⟩)), (1, .slice (some ⟨r_4, 0, none⟩) k.toNat k.toNat)] [.pointer (some ⟨p_1, 0, none⟩), .slice (some ⟨r_4, 0, none⟩) k.toNat k.toNat, .int .i64 0, .int .i64 0, .int .i64 0, .int .i64 0, .int .i64 0, .int .u64 0, .int .u64 0, .bool false] rfl rfl (by kernel_rfl)) (hS.pick []) ?_
  refine K.DW.l 6 rfl (by kernel_rfl) rfl (K.OW.gnew 154 [.pointer (some ⟨p_1, 0, none⟩), .slice (some ⟨r_4, 0, none⟩) k.toNat k.toNat, .int .i64 0, .int .i64 0, .int .i64 0, .int .i64 0, .int .i64 0, .int .u64 0, .int .u64 0, .bool false] hS ?_)
  clear hS; intro w r_7 g_8 hg_9 hS
  refine ⟨.inl (hS.pick []), ?_⟩
  refine K.b 7 rfl (.pointer (some ⟨r_7, 0, none⟩)) (hS.pick []) ?_
  refine K.DW.done (by kernel_rfl) ?_
  refine K.t (K.r ?_)
  replace hS : K.Sat w0 [[g_8, l_5, l_2].flatten, gx, fr] w := (hS.pick [0, 1, 3, 2, 4]).of
  refine ⟨.inr rfl, rfl, (.pointer (some ⟨r_7, 0, none⟩)), K.res1 rfl rfl, [gx, [g_8, l_5, l_2].flatten], ?_, hS.pick [1, 0, 2]⟩
  exact ⟨_, _, _, rfl, rfl, (by have hrn18 : k.toNat ≤ 262144 := (by omega); exact ⟨_, _, _, _, _, _, rfl, hg_9, o_6, x_3, (List.length_replicate : ((List.replicate k.toNat (0 : Int))).length = k.toNat), hrn18⟩)⟩
 ·
  refine (K.OW.gmk (P := Tryz.prog) (m := k.toNat) (cc := cU64) (z := .int .u64 0) (size := 1) (bytes := 8) (0 : Int) hS ?_ Tryz.underlying78 (by kernel_rfl) rfl rfl (by unfold maxLen; omega) (by omega))
  clear hS; intro w r_10 l_11 o_12 hS
  refine ⟨.inl (hS.pick []), ?_⟩
  refine K.DW.l 2 rfl (by kernel_rfl) rfl (K.OW.gcall hS [1] [0, 2] [.slice a m cap, .int .i64 t] (rdOpen_okm _ _ _ _ n xs t (by omega) (by omega) lx (by omega) _ hx) ?_)
  clear hS; rintro _ _ w ⟨p_13, l_14, rfl, rfl, x_15⟩ hS
  replace hS : K.Sat w0 [gx, l_14, l_11, fr] w := hS
  refine ⟨.inl (hS.pick []), ?_⟩
  refine K.c 5 rfl (K.QR.bd [(0, .pointer (some ⟨p_13, 0, none⟩)), (1, .slice (some ⟨r_10, 0, none⟩) k.toNat k.toNat)] [.pointer (some ⟨p_13, 0, none⟩), .slice (some ⟨r_10, 0, none⟩) k.toNat k.toNat, .int .i64 0, .int .i64 0, .int .i64 0, .int .i64 0, .int .i64 0, .int .u64 0, .int .u64 0, .bool false] rfl rfl (by kernel_rfl)) (hS.pick []) ?_
  refine K.DW.l 6 rfl (by kernel_rfl) rfl (K.OW.gnew 154 [.pointer (some ⟨p_13, 0, none⟩), .slice (some ⟨r_10, 0, none⟩) k.toNat k.toNat, .int .i64 0, .int .i64 0, .int .i64 0, .int .i64 0, .int .i64 0, .int .u64 0, .int .u64 0, .bool false] hS ?_)
  clear hS; intro w r_16 g_17 hg_18 hS
  refine ⟨.inl (hS.pick []), ?_⟩
  refine K.b 7 rfl (.pointer (some ⟨r_16, 0, none⟩)) (hS.pick []) ?_
  refine K.DW.done (by kernel_rfl) ?_
  refine K.t (K.r ?_)
  replace hS : K.Sat w0 [[g_17, l_11, l_14].flatten, gx, fr] w := (hS.pick [0, 3, 2, 1, 4]).of
  refine ⟨.inr rfl, rfl, (.pointer (some ⟨r_16, 0, none⟩)), K.res1 rfl rfl, [gx, [g_17, l_11, l_14].flatten], ?_, hS.pick [1, 0, 2]⟩
  exact ⟨_, _, _, rfl, rfl, (by have hrn18 : k.toNat ≤ 262144 := (by omega); exact ⟨_, _, _, _, _, _, rfl, hg_18, o_12, x_15, (List.length_replicate : ((List.replicate k.toNat (0 : Int))).length = k.toNat), hrn18⟩)⟩
end Go.Proofs.YtbfafebfkdbglaaGreat
