import Derived.Test.YtbfafebfkdbglaaGreatFpm2
import Derived.Test.YtbfafebfkdbglaaGreatFlist
/- The document's memory. -/
namespace Go.Proofs.YtbfafebfkdbglaaGreat
open Go.RowKit
set_option linter.unusedVariables false
attribute [local irreducible] K.KW K.RW K.DW K.OW K.QR K.KC
def RMemAt (l : K.Cs) (p q n t : Nat) (M : MemM) : Prop :=
 ∃ (g gp gd : K.Cs) (pa : Option Addr) (np cp : Nat), l = [g, gp, gd].flatten ∧
  g = [K.pt p 154 [.pointer (some ⟨q, 0, none⟩), .slice pa np cp, .int .i64 M.clock, .int .i64 M.bad, .int .i64 M.last.kind, .int .i64 M.last.thread, .int .i64 M.last.at_, .int .u64 M.last.old, .int .u64 M.last.new, .bool M.last.done]] ∧
  K.OwnG gp 57 1 pa np cp (M.pass.flatMap cU64) ∧ RDevAt gd q n t M.dev ∧ M.pass.length = np ∧ np ≤ 262144
set_option maxHeartbeats 1000000 in
set_option maxRecDepth 100000 in
theorem rmPeek_ok (w0 : World) (p q n t : Nat) (M : MemM) (l : K.Cs) (x : RMemAt l p q n t M) (i : Int) (hi : isInt i) :
  K.GC Tryz.prog w0 119 #[.pointer (some ⟨p, 0, none⟩), .int .i64 i] [l] (fun v post => post = [l] ∧ ((∃ y, v = .tuple #[.int .u64 y, .bool true] ∧ M.peek n i = some y) ∨ (v = .tuple #[.int .u64 0, .bool false] ∧ M.peek n i = none))) := by
 refine K.GC.mk (n := 50) Tryz.func119 rfl rfl [.pointer (some ⟨p, 0, none⟩), .int .i64 i] rfl rfl ?_
 intro fr w hS
 replace hS : K.Sat w0 [l, fr] w := hS
 obtain ⟨rg, rp, rd, ra, rnp, rcp, rfl, hrg, hrp, hrd, hrnp, hrn18⟩ := x
 replace hS : K.Sat w0 [rg, rp, rd, fr] w := hS.of
 obtain ⟨g, gk, gs, gw, gf, gz, vs, ka, sa, wa, fa, ck, cs, cw, cf, rfl, hg, ok, os, ow, of, lv, oz, dk⟩ := hrd
 have dk2 := dk; obtain ⟨lk, ls, lw, lf, lB, n0, n1, t0, t1⟩ := dk2
 replace hS : K.Sat w0 [rg, rp, g, gk, gs, gw, gf, gz, fr] w := hS.of
 refine K.s (K.g (K.q [.int .u64 0, .bool false] (K.z (K.t (K.s (K.s (K.g (K.q [.int .i64 i] ?_))))))))
 by_cases h_1 : (i : Int) ≥ (0 : Int)
 ·
  refine K.y ((i : Int) ≥ (0 : Int)) h_1 ?_
  refine K.q [.bool true, .int .i64 i, .pointer (some ⟨p, 0, none⟩), .pointer (some ⟨p, 0, none⟩), .pointer (some ⟨p, 0, none⟩)] ?_
  refine K.d (.pointer (some ⟨q, 0, none⟩)) ((hS.blk 0 rfl hrg).cell rfl) ?_
  refine K.q [.pointer (some ⟨q, 0, none⟩), .pointer (some ⟨q, 1, none⟩)] ?_
  refine K.d (.slice sa (n * 8) cs) ((hS.blk 2 rfl hg).cell rfl) ?_
  refine K.a (K.QR.len (P := Tryz.prog) rfl rfl Tryz.underlying78) ?_
  by_cases h_2 : (i : Int) < (((n * 8 : Nat) : Int) : Int)
  ·
   refine K.y ((i : Int) < (((n * 8 : Nat) : Int) : Int)) h_2 ?_
   refine K.q [.bool true] (K.z (K.t (K.h (K.s (K.g (K.q [.pointer (some ⟨p, 0, none⟩), .pointer (some ⟨p, 0, none⟩), .pointer (some ⟨p, 0, none⟩)] ?_))))))
   refine K.d (.pointer (some ⟨q, 0, none⟩)) ((hS.blk 0 rfl hrg).cell rfl) ?_
   refine K.q [.pointer (some ⟨q, 0, none⟩), .pointer (some ⟨q, 1, none⟩)] ?_
   refine K.d (.slice sa (n * 8) cs) ((hS.blk 2 rfl hg).cell rfl) ?_
   refine K.q [.int .i64 i] ?_
   obtain ⟨b_3, rfl⟩ := os.some_ (by have := os.le; omega)
   refine K.a (K.QR.ix i.toNat 1 rfl rfl rfl Tryz.underlying78 (by kernel_rfl) (by omega) (by first | (simp; done) | omega | (simp; omega))) ?_
   refine K.d (.int .u64 (M.dev.seen.getD i.toNat 0)) (K.Own.atS (c := cU64) (d := 0) (fun _ => rfl) (hS.ownr 4 rfl os) ls i.toNat (by omega)) ?_
   refine K.q [.int .u64 (M.dev.seen.getD i.toNat 0), .bool true] (K.z (K.t (K.r (K.u ?_))))
   replace hS : K.Sat w0 [[g, gk, gs, gw, gf, gz].flatten, rg, rp, fr] w := (hS.pick [2, 3, 4, 5, 6, 7, 0, 1, 8]).of
   replace hS : K.Sat w0 [[rg, rp, [g, gk, gs, gw, gf, gz].flatten].flatten, fr] w := (hS.pick [1, 2, 0, 3]).of
   refine ⟨.inr rfl, rfl, (.tuple #[.int .u64 (M.dev.seen.getD i.toNat 0), .bool true]), K.res2 rfl rfl rfl, [[rg, rp, [g, gk, gs, gw, gf, gz].flatten].flatten], ?_, hS.pick [0, 1]⟩
   exact ⟨rfl, .inl ⟨_, rfl, peek_dev (by omega)⟩⟩
  ·
   refine K.x ((i : Int) < (((n * 8 : Nat) : Int) : Int)) h_2 ?_
   refine K.q [.bool false] (K.z (K.t (K.f (K.k (K.t (K.s (K.s (K.g (K.q [.int .i64 i] ?_)))))))))
   by_cases h_5 : (i : Int) < (0 : Int)
   ·
    refine K.y ((i : Int) < (0 : Int)) h_5 ?_
    refine K.q [.bool true, .int .i64 i, .pointer (some ⟨p, 0, none⟩), .pointer (some ⟨p, 0, none⟩), .pointer (some ⟨p, 1, none⟩)] ?_
    refine K.d (.slice ra rnp rcp) ((hS.blk 0 rfl hrg).cell rfl) ?_
    refine K.a (K.QR.len (P := Tryz.prog) rfl rfl Tryz.underlying78) ?_
    refine K.a (K.QR.n64 ((0 : Int) - (((rnp : Nat) : Int) : Int)) (-(((rnp : Nat) : Int) : Int)) (by kernel_rfl) (by omega)) ?_
    by_cases h_6 : (i : Int) ≥ (-(((rnp : Nat) : Int) : Int) : Int)
    ·
     refine K.y ((i : Int) ≥ (-(((rnp : Nat) : Int) : Int) : Int)) h_6 ?_
     refine K.q [.bool true] (K.z (K.t (K.h (K.s (K.g (K.q [.pointer (some ⟨p, 0, none⟩), .pointer (some ⟨p, 0, none⟩), .pointer (some ⟨p, 1, none⟩)] ?_))))))
     refine K.d (.slice ra rnp rcp) ((hS.blk 0 rfl hrg).cell rfl) ?_
     refine K.q [.int .i64 i] ?_
     refine K.a (K.QR.n64 (((-1) : Int) - (i : Int)) (((-1) : Int) - (i : Int)) (by kernel_rfl) (by omega)) ?_
     obtain ⟨b_7, rfl⟩ := hrp.some_ (by have := hrp.le; omega)
     refine K.a (K.QR.ix ((((-1) : Int) - (i : Int)).toNat) 1 rfl rfl rfl Tryz.underlying78 (by kernel_rfl) (by omega) (by first | (simp; done) | omega | (simp; omega))) ?_
     refine K.d (.int .u64 (M.pass.getD ((((-1) : Int) - (i : Int)).toNat) 0)) (K.Own.atS (c := cU64) (d := 0) (fun _ => rfl) (hS.ownr 1 rfl hrp) hrnp ((((-1) : Int) - (i : Int)).toNat) (by omega)) ?_
     refine K.q [.int .u64 (M.pass.getD ((((-1) : Int) - (i : Int)).toNat) 0), .bool true] (K.z (K.t (K.r (K.u ?_))))
     replace hS : K.Sat w0 [[g, gk, gs, gw, gf, gz].flatten, rg, rp, fr] w := (hS.pick [2, 3, 4, 5, 6, 7, 0, 1, 8]).of
     replace hS : K.Sat w0 [[rg, rp, [g, gk, gs, gw, gf, gz].flatten].flatten, fr] w := (hS.pick [1, 2, 0, 3]).of
     refine ⟨.inr rfl, rfl, (.tuple #[.int .u64 (M.pass.getD ((((-1) : Int) - (i : Int)).toNat) 0), .bool true]), K.res2 rfl rfl rfl, [[rg, rp, [g, gk, gs, gw, gf, gz].flatten].flatten], ?_, hS.pick [0, 1]⟩
     exact ⟨rfl, .inl ⟨_, rfl, peek_pass (by omega)⟩⟩
    ·
     refine K.x ((i : Int) ≥ (-(((rnp : Nat) : Int) : Int) : Int)) h_6 ?_
     refine K.q [.bool false] (K.z (K.t (K.f (K.k (K.t (K.s (K.g (K.q [.int .u64 0, .bool false] (K.z (K.t (K.r ?_)))))))))))
     replace hS : K.Sat w0 [[g, gk, gs, gw, gf, gz].flatten, rg, rp, fr] w := (hS.pick [2, 3, 4, 5, 6, 7, 0, 1, 8]).of
     replace hS : K.Sat w0 [[rg, rp, [g, gk, gs, gw, gf, gz].flatten].flatten, fr] w := (hS.pick [1, 2, 0, 3]).of
     refine ⟨.inr rfl, rfl, (.tuple #[.int .u64 0, .bool false]), K.res2 rfl rfl rfl, [[rg, rp, [g, gk, gs, gw, gf, gz].flatten].flatten], ?_, hS.pick [0, 1]⟩
     exact ⟨rfl, .inr ⟨rfl, peek_nopass (by omega) (by omega)⟩⟩
   ·
    refine K.x ((i : Int) < (0 : Int)) h_5 ?_
    refine K.q [.bool false] (K.n_ (K.n_ (K.n_ (K.n_ (K.n_ (K.n_ (K.n_ (K.n_ (K.q [.bool false] (K.z (K.t (K.f (K.k (K.t ?_))))))))))))))
    refine K.s (K.g (K.q [.int .u64 0, .bool false] (K.z (K.t (K.r ?_)))))
    replace hS : K.Sat w0 [[g, gk, gs, gw, gf, gz].flatten, rg, rp, fr] w := (hS.pick [2, 3, 4, 5, 6, 7, 0, 1, 8]).of
    replace hS : K.Sat w0 [[rg, rp, [g, gk, gs, gw, gf, gz].flatten].flatten, fr] w := (hS.pick [1, 2, 0, 3]).of
    refine ⟨.inr rfl, rfl, (.tuple #[.int .u64 0, .bool false]), K.res2 rfl rfl rfl, [[rg, rp, [g, gk, gs, gw, gf, gz].flatten].flatten], ?_, hS.pick [0, 1]⟩
    exact ⟨rfl, .inr ⟨rfl, peek_nodev (by omega) (by omega)⟩⟩
 ·
  refine K.x ((i : Int) ≥ (0 : Int)) h_1 ?_
  refine K.q [.bool false] (K.n_ (K.n_ (K.n_ (K.n_ (K.n_ (K.n_ (K.n_ (K.n_ (K.n_ (K.n_ (K.q [.bool false] (K.z (K.t (K.f ?_))))))))))))))
  refine K.k (K.t (K.s (K.s (K.g (K.q [.int .i64 i] ?_)))))
  by_cases h_9 : (i : Int) < (0 : Int)
  ·
   refine K.y ((i : Int) < (0 : Int)) h_9 ?_
   refine K.q [.bool true, .int .i64 i, .pointer (some ⟨p, 0, none⟩), .pointer (some ⟨p, 0, none⟩), .pointer (some ⟨p, 1, none⟩)] ?_
   refine K.d (.slice ra rnp rcp) ((hS.blk 0 rfl hrg).cell rfl) ?_
   refine K.a (K.QR.len (P := Tryz.prog) rfl rfl Tryz.underlying78) ?_
   refine K.a (K.QR.n64 ((0 : Int) - (((rnp : Nat) : Int) : Int)) (-(((rnp : Nat) : Int) : Int)) (by kernel_rfl) (by omega)) ?_
   by_cases h_10 : (i : Int) ≥ (-(((rnp : Nat) : Int) : Int) : Int)
   ·
    refine K.y ((i : Int) ≥ (-(((rnp : Nat) : Int) : Int) : Int)) h_10 ?_
    refine K.q [.bool true] (K.z (K.t (K.h (K.s (K.g (K.q [.pointer (some ⟨p, 0, none⟩), .pointer (some ⟨p, 0, none⟩), .pointer (some ⟨p, 1, none⟩)] ?_))))))
    refine K.d (.slice ra rnp rcp) ((hS.blk 0 rfl hrg).cell rfl) ?_
    refine K.q [.int .i64 i] ?_
    refine K.a (K.QR.n64 (((-1) : Int) - (i : Int)) (((-1) : Int) - (i : Int)) (by kernel_rfl) (by omega)) ?_
    obtain ⟨b_11, rfl⟩ := hrp.some_ (by have := hrp.le; omega)
    refine K.a (K.QR.ix ((((-1) : Int) - (i : Int)).toNat) 1 rfl rfl rfl Tryz.underlying78 (by kernel_rfl) (by omega) (by first | (simp; done) | omega | (simp; omega))) ?_
    refine K.d (.int .u64 (M.pass.getD ((((-1) : Int) - (i : Int)).toNat) 0)) (K.Own.atS (c := cU64) (d := 0) (fun _ => rfl) (hS.ownr 1 rfl hrp) hrnp ((((-1) : Int) - (i : Int)).toNat) (by omega)) ?_
    refine K.q [.int .u64 (M.pass.getD ((((-1) : Int) - (i : Int)).toNat) 0), .bool true] (K.z (K.t (K.r (K.u ?_))))
    replace hS : K.Sat w0 [[g, gk, gs, gw, gf, gz].flatten, rg, rp, fr] w := (hS.pick [2, 3, 4, 5, 6, 7, 0, 1, 8]).of
    replace hS : K.Sat w0 [[rg, rp, [g, gk, gs, gw, gf, gz].flatten].flatten, fr] w := (hS.pick [1, 2, 0, 3]).of
    refine ⟨.inr rfl, rfl, (.tuple #[.int .u64 (M.pass.getD ((((-1) : Int) - (i : Int)).toNat) 0), .bool true]), K.res2 rfl rfl rfl, [[rg, rp, [g, gk, gs, gw, gf, gz].flatten].flatten], ?_, hS.pick [0, 1]⟩
    exact ⟨rfl, .inl ⟨_, rfl, peek_pass (by omega)⟩⟩
   ·
    refine K.x ((i : Int) ≥ (-(((rnp : Nat) : Int) : Int) : Int)) h_10 ?_
    refine K.q [.bool false] (K.z (K.t (K.f (K.k (K.t (K.s (K.g (K.q [.int .u64 0, .bool false] (K.z (K.t (K.r ?_)))))))))))
    replace hS : K.Sat w0 [[g, gk, gs, gw, gf, gz].flatten, rg, rp, fr] w := (hS.pick [2, 3, 4, 5, 6, 7, 0, 1, 8]).of
    replace hS : K.Sat w0 [[rg, rp, [g, gk, gs, gw, gf, gz].flatten].flatten, fr] w := (hS.pick [1, 2, 0, 3]).of
    refine ⟨.inr rfl, rfl, (.tuple #[.int .u64 0, .bool false]), K.res2 rfl rfl rfl, [[rg, rp, [g, gk, gs, gw, gf, gz].flatten].flatten], ?_, hS.pick [0, 1]⟩
    exact ⟨rfl, .inr ⟨rfl, peek_nopass (by omega) (by omega)⟩⟩
  ·
   refine K.x ((i : Int) < (0 : Int)) h_9 ?_
   refine K.q [.bool false] (K.n_ (K.n_ (K.n_ (K.n_ (K.n_ (K.n_ (K.n_ (K.n_ (K.q [.bool false] (K.z (K.t (K.f (K.k (K.t ?_))))))))))))))
   refine K.s (K.g (K.q [.int .u64 0, .bool false] (K.z (K.t (K.r ?_)))))
   replace hS : K.Sat w0 [[g, gk, gs, gw, gf, gz].flatten, rg, rp, fr] w := (hS.pick [2, 3, 4, 5, 6, 7, 0, 1, 8]).of
   replace hS : K.Sat w0 [[rg, rp, [g, gk, gs, gw, gf, gz].flatten].flatten, fr] w := (hS.pick [1, 2, 0, 3]).of
   refine ⟨.inr rfl, rfl, (.tuple #[.int .u64 0, .bool false]), K.res2 rfl rfl rfl, [[rg, rp, [g, gk, gs, gw, gf, gz].flatten].flatten], ?_, hS.pick [0, 1]⟩
   exact ⟨rfl, .inr ⟨rfl, peek_nopass (by omega) (by omega)⟩⟩
set_option maxHeartbeats 1000000 in
set_option maxRecDepth 100000 in
theorem rmDo2_ok (w0 : World) (p q n t : Nat) (M : MemM) (l : K.Cs) (x : RMemAt l p q n t M) (th i old wo : Int) (hth : isInt th) (hi : isInt i) :
  K.GC Tryz.prog w0 67 #[.pointer (some ⟨p, 0, none⟩), .int .i64 2, .int .i64 th, .int .i64 i, .int .u64 old, .int .u64 wo] [l] (fun v post => ∃ l', v = .agg (cAcc (M.accS n th i wo).2).toArray ∧ post = [l'] ∧ RMemAt l' p q n t (M.accS n th i wo).1) := by
 refine K.GC.mk (n := 139) Tryz.func67 rfl rfl [.pointer (some ⟨p, 0, none⟩), .int .i64 2, .int .i64 th, .int .i64 i, .int .u64 old, .int .u64 wo] rfl rfl ?_
 intro fr w hS
 replace hS : K.Sat w0 [l, fr] w := hS
 refine K.s (K.g ?_)
 refine K.l (K.OW.gnew 132 [.int .i64 0, .int .i64 0, .int .i64 0, .int .u64 0, .int .u64 0, .bool false] hS ?_)
 clear hS; intro w r_1 g_2 hg_3 hS
 refine K.z (K.t (K.s (K.g (K.q [.int .i64 2, .int .i64 th, .int .i64 i] ?_))))
 refine K.a (K.QR.bd [(0, .int .i64 2), (1, .int .i64 th), (2, .int .i64 i)] [.int .i64 2, .int .i64 th, .int .i64 i, .int .u64 0, .int .u64 0, .bool false] rfl rfl (by kernel_rfl)) ?_
 refine K.l (K.OW.gnew 132 [.int .i64 0, .int .i64 0, .int .i64 0, .int .u64 0, .int .u64 0, .bool false] hS ?_)
 clear hS; intro w r_4 g_5 hg_6 hS
 refine K.l (K.OW.gst 0 [.int .i64 2, .int .i64 th, .int .i64 i, .int .u64 0, .int .u64 0, .bool false] _ hS hg_6 ?_)
 clear hS; intro w g_7 hg_8 hS
 replace hS : K.Sat w0 [g_7, g_2, l, fr] w := hS
 refine K.z (K.t (K.s (K.g (K.q [.pointer (some ⟨p, 0, none⟩), .int .i64 i] ?_))))
 refine K.l (K.OW.gcall hS [2] [0, 1, 3] [.pointer (some ⟨p, 0, none⟩), .int .i64 i] (rmPeek_ok _ _ _ _ _ _ _ x i (by omega)) ?_)
 clear hS; rintro _ _ w ⟨rfl, (⟨y_9, rfl, h_10⟩ | ⟨rfl, h_11⟩)⟩ hS
 ·
  replace hS : K.Sat w0 [l, g_7, g_2, fr] w := hS
  refine K.q [.tuple #[.int .u64 y_9, .bool true], .int .u64 y_9, .bool true, .int .u64 y_9, .bool true] (K.z (K.t (K.s (K.s (K.g (K.q [.int .i64 2, .bool false, .bool false, .int .i64 2, .bool true, .bool true, .bool true] (K.n_ (K.n_ (K.q [.bool true] (K.z (K.t (K.h (K.s (K.g ?_))))))))))))))
  refine K.q [.int .u64 y_9, .pointer (some ⟨r_4, 3, none⟩)] ?_
  refine K.l (K.OW.gst 1 [.int .u64 y_9] _ hS hg_8 ?_)
  clear hS; intro w g_12 hg_13 hS
  replace hS : K.Sat w0 [l, g_12, g_2, fr] w := hS
  refine K.z (K.t (K.g (K.q [.bool true, .bool true, .int .i64 2, .bool true, .bool true] (K.n_ (K.n_ (K.n_ (K.q [.bool true, .bool true, .pointer (some ⟨r_4, 5, none⟩)] ?_)))))))
  refine K.l (K.OW.gst 1 [.bool true] _ hS hg_13 ?_)
  clear hS; intro w g_14 hg_15 hS
  replace hS : K.Sat w0 [l, g_14, g_2, fr] w := hS
  refine K.z (K.t (K.s (K.s (K.g (K.q [.int .i64 2, .bool true, .bool true] (K.n_ (K.n_ (K.q [.bool true] (K.z (K.t (K.h (K.s (K.g (K.q [.int .u64 wo, .pointer (some ⟨r_4, 4, none⟩)] ?_))))))))))))))
  refine K.l (K.OW.gst 1 [.int .u64 wo] _ hS hg_15 ?_)
  clear hS; intro w g_16 hg_17 hS
  replace hS : K.Sat w0 [l, g_16, g_2, fr] w := hS
  refine K.z (K.t (K.s (K.s (K.g (K.q [.pointer (some ⟨r_4, 5, none⟩)] ?_)))))
  refine K.d (.bool true) ((hS.blk 1 rfl hg_17).cell rfl) ?_
  refine K.q [.bool true, .int .i64 i] ?_
  by_cases h_18 : (i : Int) ≥ (0 : Int)
  ·
   refine K.y ((i : Int) ≥ (0 : Int)) h_18 ?_
   refine K.q [.bool true] (K.z (K.t (K.h ?_)))
   have hv := peek_some h_10
   obtain ⟨rg, rp, rd, ra, rnp, rcp, rfl, hrg, hrp, hrd, hrnp, hrn18⟩ := x
   replace hS : K.Sat w0 [rg, rp, rd, g_16, g_2, fr] w := hS.of
   obtain ⟨g, gk, gs, gw, gf, gz, vs, ka, sa, wa, fa, ck, cs, cw, cf, rfl, hg, ok, os, ow, of, lv, oz, dk⟩ := hrd
   have dk2 := dk; obtain ⟨lk, ls, lw, lf, lB, n0, n1, t0, t1⟩ := dk2
   replace hS : K.Sat w0 [rg, rp, g, gk, gs, gw, gf, gz, g_16, g_2, fr] w := hS.of
   refine K.g (K.q [.pointer (some ⟨p, 0, none⟩), .pointer (some ⟨p, 0, none⟩), .pointer (some ⟨p, 0, none⟩)] ?_)
   refine K.d (.pointer (some ⟨q, 0, none⟩)) ((hS.blk 0 rfl hrg).cell rfl) ?_
   refine K.q [.pointer (some ⟨q, 0, none⟩), .pointer (some ⟨q, 1, none⟩)] ?_
   refine K.d (.slice sa (n * 8) cs) ((hS.blk 2 rfl hg).cell rfl) ?_
   refine K.q [.int .i64 i, .int .u64 wo] ?_
   obtain ⟨b_19, rfl⟩ := os.some_ (by have := os.le; omega)
   refine K.a (K.QR.ix i.toNat 1 rfl rfl rfl Tryz.underlying78 (by kernel_rfl) (by omega) (by first | (simp; done) | omega | (simp; omega))) ?_
   refine K.l (K.OW.grst 4 i.toNat [.int .u64 wo] (((M.dev.seen.set i.toNat wo)).flatMap cU64) hS os ?_ (by show _ + 1 ≤ _; omega) (K.set1 (c := cU64) M.dev.seen i.toNat wo (by have := ls; omega)))
   clear hS; intro w l_21 o_22 hS
   have ln_23 : ((M.dev.seen.set i.toNat wo)).length = _ := (List.length_set).trans ls
   replace hS : K.Sat w0 [rg, rp, g, gk, l_21, gw, gf, gz, g_16, g_2, fr] w := hS
   refine K.z (K.t (K.s (K.g (K.q [.pointer (some ⟨r_4, 5, none⟩)] ?_))))
   refine K.d (.bool true) ((hS.blk 8 rfl hg_17).cell rfl) ?_
   refine K.q [.bool true, .int .i64 i] ?_
   refine K.x ((i : Int) < (0 : Int)) (by omega) ?_
   refine K.q [.bool false] (K.z (K.t (K.f (K.k (K.t (K.s (K.s (K.g (K.q [.int .i64 2, .bool false] (K.z (K.t (K.f (K.k (K.t ?_))))))))))))))
   refine K.s (K.s (K.g (K.q [.int .i64 2, .bool false] (K.z (K.t (K.f (K.k (K.t (K.s (K.g (K.q [.pointer (some ⟨p, 0, none⟩), .pointer (some ⟨p, 0, none⟩), .pointer (some ⟨p, 0, none⟩), .pointer (some ⟨p, 2, none⟩)] ?_)))))))))))
   refine K.d (.int .i64 M.clock) ((hS.blk 0 rfl hrg).cell rfl) ?_
   refine K.q [.int .i64 (IntKind.i64.wrap ((M.clock : Int) + (1 : Int))), .pointer (some ⟨p, 0, none⟩), .pointer (some ⟨p, 2, none⟩)] ?_
   refine K.l (K.OW.gst 0 [.int .i64 (IntKind.i64.wrap ((M.clock : Int) + (1 : Int)))] _ hS hrg ?_)
   clear hS; intro w g_24 hg_25 hS
   replace hS : K.Sat w0 [g_24, rp, g, gk, l_21, gw, gf, gz, g_16, g_2, fr] w := hS
   refine K.z (K.t (K.s (K.s (K.g (K.q [.bool true, .bool false] (K.z (K.t (K.f (K.k (K.t (K.s (K.g (K.q [.pointer (some ⟨p, 0, none⟩)] ?_)))))))))))))
   refine K.a (K.QR.ldN [.int .i64 2, .int .i64 th, .int .i64 i, .int .u64 y_9, .int .u64 wo, .bool true] rfl rfl (by kernel_rfl) (by kernel_rfl) (K.cells (K.cl ((hS.blk 8 rfl hg_17).cell rfl) (K.cl ((hS.blk 8 rfl hg_17).cell rfl) (K.cl ((hS.blk 8 rfl hg_17).cell rfl) (K.cl ((hS.blk 8 rfl hg_17).cell rfl) (K.cl ((hS.blk 8 rfl hg_17).cell rfl) (K.cl ((hS.blk 8 rfl hg_17).cell rfl) K.cl0)))))))) ?_
   refine K.q [.pointer (some ⟨p, 0, none⟩), .pointer (some ⟨p, 4, none⟩)] ?_
   refine K.l (K.OW.gst 0 [.int .i64 2, .int .i64 th, .int .i64 i, .int .u64 y_9, .int .u64 wo, .bool true] _ hS hg_25 ?_)
   clear hS; intro w g_26 hg_27 hS
   replace hS : K.Sat w0 [g_26, rp, g, gk, l_21, gw, gf, gz, g_16, g_2, fr] w := hS
   refine K.z (K.t (K.s (K.g ?_)))
   refine K.a (K.QR.ldN [.int .i64 2, .int .i64 th, .int .i64 i, .int .u64 y_9, .int .u64 wo, .bool true] rfl rfl (by kernel_rfl) (by kernel_rfl) (K.cells (K.cl ((hS.blk 8 rfl hg_17).cell rfl) (K.cl ((hS.blk 8 rfl hg_17).cell rfl) (K.cl ((hS.blk 8 rfl hg_17).cell rfl) (K.cl ((hS.blk 8 rfl hg_17).cell rfl) (K.cl ((hS.blk 8 rfl hg_17).cell rfl) (K.cl ((hS.blk 8 rfl hg_17).cell rfl) K.cl0)))))))) ?_
   refine K.l (K.OW.gst 9 [.int .i64 2, .int .i64 th, .int .i64 i, .int .u64 y_9, .int .u64 wo, .bool true] _ hS hg_3 ?_)
   clear hS; intro w g_28 hg_29 hS
   replace hS : K.Sat w0 [g_26, rp, g, gk, l_21, gw, gf, gz, g_16, g_28, fr] w := hS
   refine K.z (K.t (K.r ?_))
   replace hS : K.Sat w0 [[g, gk, l_21, gw, gf, gz].flatten, g_26, rp, g_16, g_28, fr] w := (hS.pick [2, 3, 4, 5, 6, 7, 0, 1, 8, 9, 10]).of
   have xd_30 : RDevAt ([g, gk, l_21, gw, gf, gz].flatten) q n t (M.dev.store i.toNat wo) := ⟨_, _, _, _, _, _, _, _, _, _, _, _, _, _, _, rfl, hg, ok, o_22, ow, of, lv, oz, dk.store⟩
   generalize [g, gk, l_21, gw, gf, gz].flatten = ld_31 at hS xd_30
   replace hS : K.Sat w0 [[g_26, rp, ld_31].flatten, g_16, g_28, fr] w := (hS.pick [1, 2, 0, 3, 4, 5]).of
   have e : M.accS n th i wo = ((M.put i wo).count (⟨2, th, i, y_9, wo, true⟩ : AccM) true, (⟨2, th, i, y_9, wo, true⟩ : AccM)) := by simp [MemM.accS, h_10]
   refine ⟨.inr rfl, rfl, (.agg #[.int .i64 2, .int .i64 th, .int .i64 i, .int .u64 y_9, .int .u64 wo, .bool true]), K.resAt (rs := [.cell 12 132]) [.agg #[.int .i64 2, .int .i64 th, .int .i64 i, .int .u64 y_9, .int .u64 wo, .bool true]] rfl ⟨⟨_, rfl, K.lvN [.int .i64 2, .int .i64 th, .int .i64 i, .int .u64 y_9, .int .u64 wo, .bool true] (by kernel_rfl) (by kernel_rfl) (K.cells (K.cl ((hS.blk 2 rfl hg_29).cell rfl) (K.cl ((hS.blk 2 rfl hg_29).cell rfl) (K.cl ((hS.blk 2 rfl hg_29).cell rfl) (K.cl ((hS.blk 2 rfl hg_29).cell rfl) (K.cl ((hS.blk 2 rfl hg_29).cell rfl) (K.cl ((hS.blk 2 rfl hg_29).cell rfl) K.cl0)))))))⟩, trivial⟩, [[g_26, rp, ld_31].flatten], ?_, hS.pick [0, 3]⟩
   exact ⟨_, by rw [e]; rfl, rfl, by rw [e]; rw [putD (by omega)]; exact ⟨_, _, _, _, _, _, rfl, hg_27, hrp, xd_30, hrnp, hrn18⟩⟩
  ·
   refine K.x ((i : Int) ≥ (0 : Int)) h_18 ?_
   refine K.q [.bool false] (K.z (K.t (K.f (K.k (K.t (K.s (K.g (K.q [.pointer (some ⟨r_4, 5, none⟩)] ?_))))))))
   refine K.d (.bool true) ((hS.blk 1 rfl hg_17).cell rfl) ?_
   refine K.q [.bool true, .int .i64 i] ?_
   refine K.y ((i : Int) < (0 : Int)) (by omega) ?_
   refine K.q [.bool true] (K.z (K.t (K.h ?_)))
   have hv := peek_some h_10
   obtain ⟨rg, rp, rd, ra, rnp, rcp, rfl, hrg, hrp, hrd, hrnp, hrn18⟩ := x
   replace hS : K.Sat w0 [rg, rp, rd, g_16, g_2, fr] w := hS.of
   refine K.g (K.q [.pointer (some ⟨p, 0, none⟩), .pointer (some ⟨p, 0, none⟩), .pointer (some ⟨p, 1, none⟩)] ?_)
   refine K.d (.slice ra rnp rcp) ((hS.blk 0 rfl hrg).cell rfl) ?_
   refine K.q [.int .i64 i] ?_
   refine K.a (K.QR.n64 (((-1) : Int) - (i : Int)) (((-1) : Int) - (i : Int)) (by kernel_rfl) (by omega)) ?_
   refine K.q [.int .u64 wo] ?_
   obtain ⟨b_32, rfl⟩ := hrp.some_ (by have := hrp.le; omega)
   refine K.a (K.QR.ix ((((-1) : Int) - (i : Int)).toNat) 1 rfl rfl rfl Tryz.underlying78 (by kernel_rfl) (by omega) (by first | (simp; done) | omega | (simp; omega))) ?_
   refine K.l (K.OW.grst 1 ((((-1) : Int) - (i : Int)).toNat) [.int .u64 wo] (((M.pass.set ((((-1) : Int) - (i : Int)).toNat) wo)).flatMap cU64) hS hrp ?_ (by show _ + 1 ≤ _; omega) (K.set1 (c := cU64) M.pass ((((-1) : Int) - (i : Int)).toNat) wo (by have := hrnp; omega)))
   clear hS; intro w l_34 o_35 hS
   have ln_36 : ((M.pass.set ((((-1) : Int) - (i : Int)).toNat) wo)).length = _ := (List.length_set).trans hrnp
   replace hS : K.Sat w0 [rg, l_34, rd, g_16, g_2, fr] w := hS
   refine K.z (K.t (K.s (K.s (K.g (K.q [.int .i64 2, .bool false] (K.z (K.t (K.f (K.k (K.t (K.s (K.s (K.g (K.q [.int .i64 2, .bool false] ?_))))))))))))))
   refine K.z (K.t (K.f (K.k (K.t (K.s (K.g (K.q [.pointer (some ⟨p, 0, none⟩), .pointer (some ⟨p, 0, none⟩), .pointer (some ⟨p, 0, none⟩), .pointer (some ⟨p, 2, none⟩)] ?_)))))))
   refine K.d (.int .i64 M.clock) ((hS.blk 0 rfl hrg).cell rfl) ?_
   refine K.q [.int .i64 (IntKind.i64.wrap ((M.clock : Int) + (1 : Int))), .pointer (some ⟨p, 0, none⟩), .pointer (some ⟨p, 2, none⟩)] ?_
   refine K.l (K.OW.gst 0 [.int .i64 (IntKind.i64.wrap ((M.clock : Int) + (1 : Int)))] _ hS hrg ?_)
   clear hS; intro w g_37 hg_38 hS
   replace hS : K.Sat w0 [g_37, l_34, rd, g_16, g_2, fr] w := hS
   refine K.z (K.t (K.s (K.s (K.g (K.q [.bool true, .bool false] (K.z (K.t (K.f (K.k (K.t (K.s (K.g (K.q [.pointer (some ⟨p, 0, none⟩)] ?_)))))))))))))
   refine K.a (K.QR.ldN [.int .i64 2, .int .i64 th, .int .i64 i, .int .u64 y_9, .int .u64 wo, .bool true] rfl rfl (by kernel_rfl) (by kernel_rfl) (K.cells (K.cl ((hS.blk 3 rfl hg_17).cell rfl) (K.cl ((hS.blk 3 rfl hg_17).cell rfl) (K.cl ((hS.blk 3 rfl hg_17).cell rfl) (K.cl ((hS.blk 3 rfl hg_17).cell rfl) (K.cl ((hS.blk 3 rfl hg_17).cell rfl) (K.cl ((hS.blk 3 rfl hg_17).cell rfl) K.cl0)))))))) ?_
   refine K.q [.pointer (some ⟨p, 0, none⟩), .pointer (some ⟨p, 4, none⟩)] ?_
   refine K.l (K.OW.gst 0 [.int .i64 2, .int .i64 th, .int .i64 i, .int .u64 y_9, .int .u64 wo, .bool true] _ hS hg_38 ?_)
   clear hS; intro w g_39 hg_40 hS
   replace hS : K.Sat w0 [g_39, l_34, rd, g_16, g_2, fr] w := hS
   refine K.z (K.t (K.s (K.g ?_)))
   refine K.a (K.QR.ldN [.int .i64 2, .int .i64 th, .int .i64 i, .int .u64 y_9, .int .u64 wo, .bool true] rfl rfl (by kernel_rfl) (by kernel_rfl) (K.cells (K.cl ((hS.blk 3 rfl hg_17).cell rfl) (K.cl ((hS.blk 3 rfl hg_17).cell rfl) (K.cl ((hS.blk 3 rfl hg_17).cell rfl) (K.cl ((hS.blk 3 rfl hg_17).cell rfl) (K.cl ((hS.blk 3 rfl hg_17).cell rfl) (K.cl ((hS.blk 3 rfl hg_17).cell rfl) K.cl0)))))))) ?_
   refine K.l (K.OW.gst 4 [.int .i64 2, .int .i64 th, .int .i64 i, .int .u64 y_9, .int .u64 wo, .bool true] _ hS hg_3 ?_)
   clear hS; intro w g_41 hg_42 hS
   replace hS : K.Sat w0 [g_39, l_34, rd, g_16, g_41, fr] w := hS
   refine K.z (K.t (K.r ?_))
   replace hS : K.Sat w0 [[g_39, l_34, rd].flatten, g_16, g_41, fr] w := (hS.pick [0, 1, 2, 3, 4, 5]).of
   have e : M.accS n th i wo = ((M.put i wo).count (⟨2, th, i, y_9, wo, true⟩ : AccM) true, (⟨2, th, i, y_9, wo, true⟩ : AccM)) := by simp [MemM.accS, h_10]
   refine ⟨.inr rfl, rfl, (.agg #[.int .i64 2, .int .i64 th, .int .i64 i, .int .u64 y_9, .int .u64 wo, .bool true]), K.resAt (rs := [.cell 12 132]) [.agg #[.int .i64 2, .int .i64 th, .int .i64 i, .int .u64 y_9, .int .u64 wo, .bool true]] rfl ⟨⟨_, rfl, K.lvN [.int .i64 2, .int .i64 th, .int .i64 i, .int .u64 y_9, .int .u64 wo, .bool true] (by kernel_rfl) (by kernel_rfl) (K.cells (K.cl ((hS.blk 2 rfl hg_42).cell rfl) (K.cl ((hS.blk 2 rfl hg_42).cell rfl) (K.cl ((hS.blk 2 rfl hg_42).cell rfl) (K.cl ((hS.blk 2 rfl hg_42).cell rfl) (K.cl ((hS.blk 2 rfl hg_42).cell rfl) (K.cl ((hS.blk 2 rfl hg_42).cell rfl) K.cl0)))))))⟩, trivial⟩, [[g_39, l_34, rd].flatten], ?_, hS.pick [0, 3]⟩
   exact ⟨_, by rw [e]; rfl, rfl, by rw [e]; rw [putP (by omega)]; exact ⟨_, _, _, _, _, _, rfl, hg_40, o_35, hrd, ln_36, hrn18⟩⟩
 ·
  replace hS : K.Sat w0 [l, g_7, g_2, fr] w := hS
  refine K.q [.tuple #[.int .u64 0, .bool false], .int .u64 0, .bool false, .int .u64 0, .bool false] (K.z (K.t (K.s (K.s (K.g (K.q [.int .i64 2, .bool false, .bool false, .int .i64 2, .bool true, .bool true, .bool true] (K.n_ (K.n_ (K.q [.bool true] (K.z (K.t (K.h (K.s (K.g ?_))))))))))))))
  refine K.q [.int .u64 0, .pointer (some ⟨r_4, 3, none⟩)] ?_
  refine K.l (K.OW.gst 1 [.int .u64 0] _ hS hg_8 ?_)
  clear hS; intro w g_43 hg_44 hS
  replace hS : K.Sat w0 [l, g_43, g_2, fr] w := hS
  refine K.z (K.t (K.g (K.q [.bool false, .bool false] (K.n_ (K.n_ (K.n_ (K.n_ (K.n_ (K.n_ (K.n_ (K.q [.bool false, .pointer (some ⟨r_4, 5, none⟩)] ?_)))))))))))
  refine K.l (K.OW.gst 1 [.bool false] _ hS hg_44 ?_)
  clear hS; intro w g_45 hg_46 hS
  replace hS : K.Sat w0 [l, g_45, g_2, fr] w := hS
  refine K.z (K.t (K.s (K.s (K.g (K.q [.int .i64 2, .bool true, .bool true] (K.n_ (K.n_ (K.q [.bool true] (K.z (K.t (K.h (K.s (K.g (K.q [.int .u64 wo, .pointer (some ⟨r_4, 4, none⟩)] ?_))))))))))))))
  refine K.l (K.OW.gst 1 [.int .u64 wo] _ hS hg_46 ?_)
  clear hS; intro w g_47 hg_48 hS
  replace hS : K.Sat w0 [l, g_47, g_2, fr] w := hS
  refine K.z (K.t (K.s (K.s (K.g (K.q [.pointer (some ⟨r_4, 5, none⟩)] ?_)))))
  refine K.d (.bool false) ((hS.blk 1 rfl hg_48).cell rfl) ?_
  refine K.q [.bool false] (K.n_ (K.n_ (K.q [.bool false] (K.z (K.t (K.f (K.k (K.t (K.s (K.g (K.q [.pointer (some ⟨r_4, 5, none⟩)] ?_)))))))))))
  refine K.d (.bool false) ((hS.blk 1 rfl hg_48).cell rfl) ?_
  refine K.q [.bool false] (K.n_ (K.n_ (K.q [.bool false] (K.z (K.t (K.f (K.k (K.t (K.s (K.s (K.g (K.q [.int .i64 2, .bool false] (K.z (K.t ?_))))))))))))))
  refine K.f (K.k (K.t (K.s (K.s (K.g (K.q [.int .i64 2, .bool false] (K.z (K.t (K.f (K.k (K.t (K.s ?_))))))))))))
  obtain ⟨rg, rp, rd, ra, rnp, rcp, rfl, hrg, hrp, hrd, hrnp, hrn18⟩ := x
  replace hS : K.Sat w0 [rg, rp, rd, g_47, g_2, fr] w := hS.of
  refine K.g (K.q [.pointer (some ⟨p, 0, none⟩), .pointer (some ⟨p, 0, none⟩), .pointer (some ⟨p, 0, none⟩), .pointer (some ⟨p, 2, none⟩)] ?_)
  refine K.d (.int .i64 M.clock) ((hS.blk 0 rfl hrg).cell rfl) ?_
  refine K.q [.int .i64 (IntKind.i64.wrap ((M.clock : Int) + (1 : Int))), .pointer (some ⟨p, 0, none⟩), .pointer (some ⟨p, 2, none⟩)] ?_
  refine K.l (K.OW.gst 0 [.int .i64 (IntKind.i64.wrap ((M.clock : Int) + (1 : Int)))] _ hS hrg ?_)
  clear hS; intro w g_49 hg_50 hS
  replace hS : K.Sat w0 [g_49, rp, rd, g_47, g_2, fr] w := hS
  refine K.z (K.t (K.s (K.s (K.g (K.q [.bool false, .bool true] (K.z (K.t (K.h (K.g (K.q [.pointer (some ⟨p, 0, none⟩), .pointer (some ⟨p, 0, none⟩), .pointer (some ⟨p, 0, none⟩), .pointer (some ⟨p, 3, none⟩)] ?_))))))))))
  refine K.d (.int .i64 M.bad) ((hS.blk 0 rfl hg_50).cell rfl) ?_
  refine K.q [.int .i64 (IntKind.i64.wrap ((M.bad : Int) + (1 : Int))), .pointer (some ⟨p, 0, none⟩), .pointer (some ⟨p, 3, none⟩)] ?_
  refine K.l (K.OW.gst 0 [.int .i64 (IntKind.i64.wrap ((M.bad : Int) + (1 : Int)))] _ hS hg_50 ?_)
  clear hS; intro w g_51 hg_52 hS
  replace hS : K.Sat w0 [g_51, rp, rd, g_47, g_2, fr] w := hS
  refine K.z (K.t (K.s (K.g (K.q [.pointer (some ⟨p, 0, none⟩)] ?_))))
  refine K.a (K.QR.ldN [.int .i64 2, .int .i64 th, .int .i64 i, .int .u64 0, .int .u64 wo, .bool false] rfl rfl (by kernel_rfl) (by kernel_rfl) (K.cells (K.cl ((hS.blk 3 rfl hg_48).cell rfl) (K.cl ((hS.blk 3 rfl hg_48).cell rfl) (K.cl ((hS.blk 3 rfl hg_48).cell rfl) (K.cl ((hS.blk 3 rfl hg_48).cell rfl) (K.cl ((hS.blk 3 rfl hg_48).cell rfl) (K.cl ((hS.blk 3 rfl hg_48).cell rfl) K.cl0)))))))) ?_
  refine K.q [.pointer (some ⟨p, 0, none⟩), .pointer (some ⟨p, 4, none⟩)] ?_
  refine K.l (K.OW.gst 0 [.int .i64 2, .int .i64 th, .int .i64 i, .int .u64 0, .int .u64 wo, .bool false] _ hS hg_52 ?_)
  clear hS; intro w g_53 hg_54 hS
  replace hS : K.Sat w0 [g_53, rp, rd, g_47, g_2, fr] w := hS
  refine K.z (K.t (K.s (K.g ?_)))
  refine K.a (K.QR.ldN [.int .i64 2, .int .i64 th, .int .i64 i, .int .u64 0, .int .u64 wo, .bool false] rfl rfl (by kernel_rfl) (by kernel_rfl) (K.cells (K.cl ((hS.blk 3 rfl hg_48).cell rfl) (K.cl ((hS.blk 3 rfl hg_48).cell rfl) (K.cl ((hS.blk 3 rfl hg_48).cell rfl) (K.cl ((hS.blk 3 rfl hg_48).cell rfl) (K.cl ((hS.blk 3 rfl hg_48).cell rfl) (K.cl ((hS.blk 3 rfl hg_48).cell rfl) K.cl0)))))))) ?_
  refine K.l (K.OW.gst 4 [.int .i64 2, .int .i64 th, .int .i64 i, .int .u64 0, .int .u64 wo, .bool false] _ hS hg_3 ?_)
  clear hS; intro w g_55 hg_56 hS
  replace hS : K.Sat w0 [g_53, rp, rd, g_47, g_55, fr] w := hS
  refine K.z (K.t (K.r ?_))
  replace hS : K.Sat w0 [[g_53, rp, rd].flatten, g_47, g_55, fr] w := (hS.pick [0, 1, 2, 3, 4, 5]).of
  have e : M.accS n th i wo = (M.count (⟨2, th, i, 0, wo, false⟩ : AccM) false, (⟨2, th, i, 0, wo, false⟩ : AccM)) := by simp [MemM.accS, h_11]
  refine ⟨.inr rfl, rfl, (.agg #[.int .i64 2, .int .i64 th, .int .i64 i, .int .u64 0, .int .u64 wo, .bool false]), K.resAt (rs := [.cell 12 132]) [.agg #[.int .i64 2, .int .i64 th, .int .i64 i, .int .u64 0, .int .u64 wo, .bool false]] rfl ⟨⟨_, rfl, K.lvN [.int .i64 2, .int .i64 th, .int .i64 i, .int .u64 0, .int .u64 wo, .bool false] (by kernel_rfl) (by kernel_rfl) (K.cells (K.cl ((hS.blk 2 rfl hg_56).cell rfl) (K.cl ((hS.blk 2 rfl hg_56).cell rfl) (K.cl ((hS.blk 2 rfl hg_56).cell rfl) (K.cl ((hS.blk 2 rfl hg_56).cell rfl) (K.cl ((hS.blk 2 rfl hg_56).cell rfl) (K.cl ((hS.blk 2 rfl hg_56).cell rfl) K.cl0)))))))⟩, trivial⟩, [[g_53, rp, rd].flatten], ?_, hS.pick [0, 3]⟩
  exact ⟨_, by rw [e]; rfl, rfl, by rw [e]; exact ⟨_, _, _, _, _, _, rfl, hg_54, hrp, hrd, hrnp, hrn18⟩⟩
end Go.Proofs.YtbfafebfkdbglaaGreat
