import Derived.Test.YtbfafebfkdbglaaGreatFpm2
import Derived.Test.YtbfafebfkdbglaaGreatFlist
/- The document's memory. -/
namespace Go.Proofs.YtbfafebfkdbglaaGreat
open Go.RowKit
set_option linter.unusedVariables false
attribute [local irreducible] K.KW K.RW K.DW K.OW K.QR K.KC
def RMemAt (l : K.Cs) (p q n t : Nat) (M : MemM) : Prop :=
 ∃ (g gp gd : K.Cs) (pa : Option Addr) (np cp : Nat), l = [g, gp, gd].flatten ∧
  g = [K.pt p 154 [K.pa q, .slice pa np cp, K.iv M.clock, K.iv M.bad, K.iv M.last.kind, K.iv M.last.thread, K.iv M.last.at_, .int .u64 M.last.old, .int .u64 M.last.new, .bool M.last.done]] ∧
  K.OwnG gp 57 1 pa np cp (M.pass.flatMap cU64) ∧ RDevAt gd q n t M.dev ∧ M.pass.length = np ∧ np ≤ 262144
set_option maxHeartbeats 1000000 in
set_option maxRecDepth 100000 in
theorem rmPeek_ok (w0 : World) (p q n t : Nat) (M : MemM) (l : K.Cs) (x : RMemAt l p q n t M) (i : Int) (hi : isInt i) :
  K.GC Tryz.prog w0 119 #[K.pa p, K.iv i] [l] (fun v post => post = [l] ∧ ((∃ y, v = .tuple #[.int .u64 y, .bool true] ∧ M.peek n i = some y) ∨ (v = .tuple #[.int .u64 0, .bool false] ∧ M.peek n i = none))) := by
 refine K.GC.mk (n := 50) Tryz.func119 rfl rfl [K.pa p, K.iv i] rfl rfl ?_
 intro fr w hS
 replace hS : K.Sat w0 [l, fr] w := hS
 obtain ⟨rg, rp, rd, ra, rnp, rcp, rfl, hrg, hrp, hrd, hrnp, hrn18⟩ := x
 replace hS : K.Sat w0 [rg, rp, rd, fr] w := hS.of
 obtain ⟨g, gk, gs, gw, gf, gz, vs, ka, sa, wa, fa, ck, cs, cw, cf, rfl, hg, ok, os, ow, of, lv, oz, dk⟩ := hrd
 have dk2 := dk; obtain ⟨lk, ls, lw, lf, lB, n0, n1, t0, t1⟩ := dk2
 replace hS : K.Sat w0 [rg, rp, g, gk, gs, gw, gf, gz, fr] w := hS.of
 refine K.s (K.g (K.q [.int .u64 0, .bool false] (K.z (K.t (K.s (K.s (K.g (K.q [K.iv i] ?_))))))))
 by_cases h_1 : (i : Int) ≥ (0 : Int)
 ·
  refine K.y ((i : Int) ≥ (0 : Int)) h_1 ?_
  refine K.q [.bool true, K.iv i, K.pa p, K.pa p, K.pa p] ?_
  refine K.d (K.pa q) ((hS.blk 0 rfl hrg).cell rfl) ?_
  refine K.q [K.pa q, .pointer (some ⟨q, 1, none⟩)] ?_
  refine K.d (.slice sa (n * 8) cs) ((hS.blk 2 rfl hg).cell rfl) ?_
  refine K.a (K.QR.len (P := Tryz.prog) rfl rfl Tryz.underlying78) ?_
  by_cases h_2 : (i : Int) < (((n * 8 : Nat) : Int) : Int)
  ·
   refine K.y ((i : Int) < (((n * 8 : Nat) : Int) : Int)) h_2 ?_
   refine K.q [.bool true] (K.z (K.t (K.h (K.s (K.g (K.q [K.pa p, K.pa p, K.pa p] ?_))))))
   refine K.d (K.pa q) ((hS.blk 0 rfl hrg).cell rfl) ?_
   refine K.q [K.pa q, .pointer (some ⟨q, 1, none⟩)] ?_
   refine K.d (.slice sa (n * 8) cs) ((hS.blk 2 rfl hg).cell rfl) ?_
   refine K.q [K.iv i] ?_
   obtain ⟨b_3, rfl⟩ := os.some_ (by have := os.le; omega)
   refine K.a (K.QR.ix i.toNat 1 rfl rfl rfl Tryz.underlying78 (by kernel_rfl) (by omega) (by first | (simp; done) | omega | (simp; omega))) ?_
   refine K.d (.int .u64 (M.dev.seen.getD i.toNat 0)) (K.Own.atS (c := cU64) (d := 0) (fun _ => rfl) (hS.ownr 4 rfl os) ls i.toNat (by omega)) ?_
   refine K.q [.int .u64 (M.dev.seen.getD i.toNat 0), .bool true] (K.z (K.t (K.r (K.u ?_))))
   replace hS : K.Sat w0 [[g, gk, gs, gw, gf, gz].flatten, rg, rp, fr] w := (hS.pick [2, 3, 4, 5, 6, 7, 0, 1, 8]).of
   replace hS : K.Sat w0 [[rg, rp, [g, gk, gs, gw, gf, gz].flatten].flatten, fr] w := (hS.pick [1, 2, 0, 3]).of
   refine ⟨.inr rfl, rfl, (.tuple #[.int .u64 (M.dev.seen.getD i.toNat 0), .bool true]), K.res2 rfl rfl rfl, [[rg, rp, [g, gk, gs, gw, gf, gz].flatten].flatten], ?_, hS.pick [0, 1]⟩
   exact ⟨rfl, .inl ⟨_, rfl, peek_dev (by omega)⟩⟩
  ·
   refine K.x ((i : Int) < (((n * 8 : Nat) : Int) : Int)) h_2 ?_
   refine K.q [.bool false] (K.z (K.t (K.f (K.k (K.t (K.s (K.s (K.g (K.q [K.iv i] ?_)))))))))
   by_cases h_5 : (i : Int) < (0 : Int)
   ·
    refine K.y ((i : Int) < (0 : Int)) h_5 ?_
    refine K.q [.bool true, K.iv i, K.pa p, K.pa p, .pointer (some ⟨p, 1, none⟩)] ?_
    refine K.d (.slice ra rnp rcp) ((hS.blk 0 rfl hrg).cell rfl) ?_
    refine K.a (K.QR.len (P := Tryz.prog) rfl rfl Tryz.underlying78) ?_
    refine K.a (K.QR.n64 ((0 : Int) - (((rnp : Nat) : Int) : Int)) (-(((rnp : Nat) : Int) : Int)) (by kernel_rfl) (by omega)) ?_
    by_cases h_6 : (i : Int) ≥ (-(((rnp : Nat) : Int) : Int) : Int)
    ·
     refine K.y ((i : Int) ≥ (-(((rnp : Nat) : Int) : Int) : Int)) h_6 ?_
     refine K.q [.bool true] (K.z (K.t (K.h (K.s (K.g (K.q [K.pa p, K.pa p, .pointer (some ⟨p, 1, none⟩)] ?_))))))
     refine K.d (.slice ra rnp rcp) ((hS.blk 0 rfl hrg).cell rfl) ?_
     refine K.q [K.iv i] ?_
     refine K.a (K.QR.n64 (((-1) : Int) - (i : Int)) (((-1) : Int) - (i : Int)) (by kernel_rfl) (by omega)) ?_
     obtain ⟨b_7, rfl⟩ := hrp.some_ (by have := hrp.le; omega)
     refine K.a (K.QR.ix ((((-1) : Int) - (i : Int)).toNat) 1 rfl rfl rfl Tryz.underlying78 (by kernel_rfl) (by omega) (by first | (simp; done) | omega | (simp; omega))) ?_
     refine K.d (.int .u64 (M.pass.getD ((((-1) : Int) - (i : Int)).toNat) 0)) (K.Own.atS (c := cU64) (d := 0) (fun _ => rfl) (hS.ownr 1 rfl hrp) hrnp ((((-1) : Int) - (i : Int)).toNat) (by omega)) ?_
     refine K.q [.int .u64 (M.pass.getD ((((-1) : Int) - (i : Int)).toNat) 0), .bool true] (K.z (K.t (K.r (K.u ?_))))
     replace hS : K.Sat w0 [[g, gk, gs, gw, gf, gz].flatten, rg, rp, fr] w := (hS.pick [2, 3, 4, 5, 6, 7, 0, 1, 8]).of
     replace hS : K.Sat w0 [[rg, rp, [g, gk, gs, gw, gf, gz].flatten].flatten, fr] w := (hS.pick [1, 2, 0, 3]).of
     refine ⟨.inr rfl, rfl, (.tuple #[.int .u64 (M.pass.getD ((((-1) : Int) - (i : Int)).toNat) 0), .bool true]), K.res2 rfl rfl rfl, [[rg, rp, [g, gk, gs, gw, gf, gz].flatten].flatten], ?_, hS.pick [0, 1]⟩
     exact ⟨rfl, .inl ⟨_, rfl, peek_pass (by omega)⟩⟩
    ·
     refine K.x ((i : Int) ≥ (-(((rnp : Nat) : Int) : Int) : Int)) h_6 ?_
     refine K.q [.bool false] (K.z (K.t (K.f (K.k (K.t (K.s (K.g (K.q [.int .u64 0, .bool false] (K.z (K.t (K.r ?_)))))))))))
     replace hS : K.Sat w0 [[g, gk, gs, gw, gf, gz].flatten, rg, rp, fr] w := (hS.pick [2, 3, 4, 5, 6, 7, 0, 1, 8]).of
     replace hS : K.Sat w0 [[rg, rp, [g, gk, gs, gw, gf, gz].flatten].flatten, fr] w := (hS.pick [1, 2, 0, 3]).of
     refine ⟨.inr rfl, rfl, (.tuple #[.int .u64 0, .bool false]), K.res2 rfl rfl rfl, [[rg, rp, [g, gk, gs, gw, gf, gz].flatten].flatten], ?_, hS.pick [0, 1]⟩
     exact ⟨rfl, .inr ⟨rfl, peek_nopass (by omega) (by omega)⟩⟩
   ·
    refine K.x ((i : Int) < (0 : Int)) h_5 ?_
    refine K.q [.bool false] (K.n_ (K.n_ (K.n_ (K.n_ (K.n_ (K.n_ (K.n_ (K.n_ (K.q [.bool false] (K.z (K.t (K.f (K.k (K.t ?_))))))))))))))
    refine K.s (K.g (K.q [.int .u64 0, .bool false] (K.z (K.t (K.r ?_)))))
    replace hS : K.Sat w0 [[g, gk, gs, gw, gf, gz].flatten, rg, rp, fr] w := (hS.pick [2, 3, 4, 5, 6, 7, 0, 1, 8]).of
    replace hS : K.Sat w0 [[rg, rp, [g, gk, gs, gw, gf, gz].flatten].flatten, fr] w := (hS.pick [1, 2, 0, 3]).of
    refine ⟨.inr rfl, rfl, (.tuple #[.int .u64 0, .bool false]), K.res2 rfl rfl rfl, [[rg, rp, [g, gk, gs, gw, gf, gz].flatten].flatten], ?_, hS.pick [0, 1]⟩
    exact ⟨rfl, .inr ⟨rfl, peek_nodev (by omega) (by omega)⟩⟩
 ·
  refine K.x ((i : Int) ≥ (0 : Int)) h_1 ?_
  refine K.q [.bool false] (K.n_ (K.n_ (K.n_ (K.n_ (K.n_ (K.n_ (K.n_ (K.n_ (K.n_ (K.n_ (K.q [.bool false] (K.z (K.t (K.f ?_))))))))))))))
  refine K.k (K.t (K.s (K.s (K.g (K.q [K.iv i] ?_)))))
  by_cases h_9 : (i : Int) < (0 : Int)
  ·
   refine K.y ((i : Int) < (0 : Int)) h_9 ?_
   refine K.q [.bool true, K.iv i, K.pa p, K.pa p, .pointer (some ⟨p, 1, none⟩)] ?_
   refine K.d (.slice ra rnp rcp) ((hS.blk 0 rfl hrg).cell rfl) ?_
   refine K.a (K.QR.len (P := Tryz.prog) rfl rfl Tryz.underlying78) ?_
   refine K.a (K.QR.n64 ((0 : Int) - (((rnp : Nat) : Int) : Int)) (-(((rnp : Nat) : Int) : Int)) (by kernel_rfl) (by omega)) ?_
   by_cases h_10 : (i : Int) ≥ (-(((rnp : Nat) : Int) : Int) : Int)
   ·
    refine K.y ((i : Int) ≥ (-(((rnp : Nat) : Int) : Int) : Int)) h_10 ?_
    refine K.q [.bool true] (K.z (K.t (K.h (K.s (K.g (K.q [K.pa p, K.pa p, .pointer (some ⟨p, 1, none⟩)] ?_))))))
    refine K.d (.slice ra rnp rcp) ((hS.blk 0 rfl hrg).cell rfl) ?_
    refine K.q [K.iv i] ?_
    refine K.a (K.QR.n64 (((-1) : Int) - (i : Int)) (((-1) : Int) - (i : Int)) (by kernel_rfl) (by omega)) ?_
    obtain ⟨b_11, rfl⟩ := hrp.some_ (by have := hrp.le; omega)
    refine K.a (K.QR.ix ((((-1) : Int) - (i : Int)).toNat) 1 rfl rfl rfl Tryz.underlying78 (by kernel_rfl) (by omega) (by first | (simp; done) | omega | (simp; omega))) ?_
    refine K.d (.int .u64 (M.pass.getD ((((-1) : Int) - (i : Int)).toNat) 0)) (K.Own.atS (c := cU64) (d := 0) (fun _ => rfl) (hS.ownr 1 rfl hrp) hrnp ((((-1) : Int) - (i : Int)).toNat) (by omega)) ?_
    refine K.q [.int .u64 (M.pass.getD ((((-1) : Int) - (i : Int)).toNat) 0), .bool true] (K.z (K.t (K.r (K.u ?_))))
    replace hS : K.Sat w0 [[g, gk, gs, gw, gf, gz].flatten, rg, rp, fr] w := (hS.pick [2, 3, 4, 5, 6, 7, 0, 1, 8]).of
    replace hS : K.Sat w0 [[rg, rp, [g, gk, gs, gw, gf, gz].flatten].flatten, fr] w := (hS.pick [1, 2, 0, 3]).of
    refine ⟨.inr rfl, rfl, (.tuple #[.int .u64 (M.pass.getD ((((-1) : Int) - (i : Int)).toNat) 0), .bool true]), K.res2 rfl rfl rfl, [[rg, rp, [g, gk, gs, gw, gf, gz].flatten].flatten], ?_, hS.pick [0, 1]⟩
    exact ⟨rfl, .inl ⟨_, rfl, peek_pass (by omega)⟩⟩
   ·
    refine K.x ((i : Int) ≥ (-(((rnp : Nat) : Int) : Int) : Int)) h_10 ?_
    refine K.q [.bool false] (K.z (K.t (K.f (K.k (K.t (K.s (K.g (K.q [.int .u64 0, .bool false] (K.z (K.t (K.r ?_)))))))))))
    replace hS : K.Sat w0 [[g, gk, gs, gw, gf, gz].flatten, rg, rp, fr] w := (hS.pick [2, 3, 4, 5, 6, 7, 0, 1, 8]).of
    replace hS : K.Sat w0 [[rg, rp, [g, gk, gs, gw, gf, gz].flatten].flatten, fr] w := (hS.pick [1, 2, 0, 3]).of
    refine ⟨.inr rfl, rfl, (.tuple #[.int .u64 0, .bool false]), K.res2 rfl rfl rfl, [[rg, rp, [g, gk, gs, gw, gf, gz].flatten].flatten], ?_, hS.pick [0, 1]⟩
    exact ⟨rfl, .inr ⟨rfl, peek_nopass (by omega) (by omega)⟩⟩
  ·
   refine K.x ((i : Int) < (0 : Int)) h_9 ?_
   refine K.q [.bool false] (K.n_ (K.n_ (K.n_ (K.n_ (K.n_ (K.n_ (K.n_ (K.n_ (K.q [.bool false] (K.z (K.t (K.f (K.k (K.t ?_))))))))))))))
   refine K.s (K.g (K.q [.int .u64 0, .bool false] (K.z (K.t (K.r ?_)))))
   replace hS : K.Sat w0 [[g, gk, gs, gw, gf, gz].flatten, rg, rp, fr] w := (hS.pick [2, 3, 4, 5, 6, 7, 0, 1, 8]).of
   replace hS : K.Sat w0 [[rg, rp, [g, gk, gs, gw, gf, gz].flatten].flatten, fr] w := (hS.pick [1, 2, 0, 3]).of
   refine ⟨.inr rfl, rfl, (.tuple #[.int .u64 0, .bool false]), K.res2 rfl rfl rfl, [[rg, rp, [g, gk, gs, gw, gf, gz].flatten].flatten], ?_, hS.pick [0, 1]⟩
   exact ⟨rfl, .inr ⟨rfl, peek_nopass (by omega) (by omega)⟩⟩
set_option maxHeartbeats 1000000 in
set_option maxRecDepth 100000 in
theorem rmDo1_ok (w0 : World) (p q n t : Nat) (M : MemM) (l : K.Cs) (x : RMemAt l p q n t M) (th i old wo : Int) (hth : isInt th) (hi : isInt i) :
  K.GC Tryz.prog w0 67 #[K.pa p, K.iv 1, K.iv th, K.iv i, .int .u64 old, .int .u64 wo] [l] (fun v post => ∃ l', v = .agg (cAcc (M.accL n th i).2).toArray ∧ post = [l'] ∧ RMemAt l' p q n t (M.accL n th i).1) := by
 refine K.GC.mk (n := 139) Tryz.func67 rfl rfl [K.pa p, K.iv 1, K.iv th, K.iv i, .int .u64 old, .int .u64 wo] rfl rfl ?_
 intro fr w hS
 replace hS : K.Sat w0 [l, fr] w := hS
 refine K.s (K.g ?_)
 refine K.l (K.OW.gnew 132 [K.iv 0, K.iv 0, K.iv 0, .int .u64 0, .int .u64 0, .bool false] hS ?_)
 clear hS; intro w r_1 g_2 hg_3 hS
 refine K.z (K.t (K.s (K.g (K.q [K.iv 1, K.iv th, K.iv i] ?_))))
 refine K.a (K.QR.bd [(0, K.iv 1), (1, K.iv th), (2, K.iv i)] [K.iv 1, K.iv th, K.iv i, .int .u64 0, .int .u64 0, .bool false] rfl rfl (by kernel_rfl)) ?_
 refine K.l (K.OW.gnew 132 [K.iv 0, K.iv 0, K.iv 0, .int .u64 0, .int .u64 0, .bool false] hS ?_)
 clear hS; intro w r_4 g_5 hg_6 hS
 refine K.l (K.OW.gst 0 [K.iv 1, K.iv th, K.iv i, .int .u64 0, .int .u64 0, .bool false] _ hS hg_6 ?_)
 clear hS; intro w g_7 hg_8 hS
 replace hS : K.Sat w0 [g_7, g_2, l, fr] w := hS
 refine K.z (K.t (K.s (K.g (K.q [K.pa p, K.iv i] ?_))))
 refine K.l (K.OW.gcall hS [2] [0, 1, 3] [K.pa p, K.iv i] (rmPeek_ok _ _ _ _ _ _ _ x i (by omega)) ?_)
 clear hS; rintro _ _ w ⟨rfl, (⟨y_9, rfl, h_10⟩ | ⟨rfl, h_11⟩)⟩ hS
 ·
  replace hS : K.Sat w0 [l, g_7, g_2, fr] w := hS
  refine K.q [.tuple #[.int .u64 y_9, .bool true], .int .u64 y_9, .bool true, .int .u64 y_9, .bool true] (K.z (K.t (K.s (K.s (K.g (K.q [K.iv 1, .bool true, .bool true] (K.n_ (K.n_ (K.q [.bool true, .bool true] (K.n_ (K.n_ (K.q [.bool true] (K.z (K.t ?_))))))))))))))
  refine K.h (K.s (K.g (K.q [.int .u64 y_9, .pointer (some ⟨r_4, 3, none⟩)] ?_)))
  refine K.l (K.OW.gst 1 [.int .u64 y_9] _ hS hg_8 ?_)
  clear hS; intro w g_12 hg_13 hS
  replace hS : K.Sat w0 [l, g_12, g_2, fr] w := hS
  refine K.z (K.t (K.g (K.q [.bool true, .bool true, K.iv 1, .bool true, .bool true] (K.n_ (K.n_ (K.n_ (K.q [.bool true, .bool true, .pointer (some ⟨r_4, 5, none⟩)] ?_)))))))
  refine K.l (K.OW.gst 1 [.bool true] _ hS hg_13 ?_)
  clear hS; intro w g_14 hg_15 hS
  replace hS : K.Sat w0 [l, g_14, g_2, fr] w := hS
  refine K.z (K.t (K.s (K.s (K.g (K.q [K.iv 1, .bool false, .bool false, K.iv 1, .bool false, .bool false] (K.z (K.t (K.f (K.k (K.t (K.s (K.s (K.g (K.q [K.iv 1, .bool false] ?_))))))))))))))
  refine K.z (K.t (K.f (K.k (K.t (K.s (K.s (K.g (K.q [K.iv 1, .bool false] (K.z (K.t (K.f (K.k (K.t (K.s ?_))))))))))))))
  obtain ⟨rg, rp, rd, ra, rnp, rcp, rfl, hrg, hrp, hrd, hrnp, hrn18⟩ := x
  replace hS : K.Sat w0 [rg, rp, rd, g_14, g_2, fr] w := hS.of
  refine K.g (K.q [K.pa p, K.pa p, K.pa p, .pointer (some ⟨p, 2, none⟩)] ?_)
  refine K.d (K.iv M.clock) ((hS.blk 0 rfl hrg).cell rfl) ?_
  refine K.q [K.iv (IntKind.i64.wrap ((M.clock : Int) + (1 : Int))), K.pa p, .pointer (some ⟨p, 2, none⟩)] ?_
  refine K.l (K.OW.gst 0 [K.iv (IntKind.i64.wrap ((M.clock : Int) + (1 : Int)))] _ hS hrg ?_)
  clear hS; intro w g_16 hg_17 hS
  replace hS : K.Sat w0 [g_16, rp, rd, g_14, g_2, fr] w := hS
  refine K.z (K.t (K.s (K.s (K.g (K.q [.bool true, .bool false] (K.z (K.t (K.f (K.k (K.t (K.s (K.g (K.q [K.pa p] ?_)))))))))))))
  refine K.a (K.QR.ldN [K.iv 1, K.iv th, K.iv i, .int .u64 y_9, .int .u64 0, .bool true] rfl rfl (by kernel_rfl) (by kernel_rfl) (K.cells (K.cl ((hS.blk 3 rfl hg_15).cell rfl) (K.cl ((hS.blk 3 rfl hg_15).cell rfl) (K.cl ((hS.blk 3 rfl hg_15).cell rfl) (K.cl ((hS.blk 3 rfl hg_15).cell rfl) (K.cl ((hS.blk 3 rfl hg_15).cell rfl) (K.cl ((hS.blk 3 rfl hg_15).cell rfl) K.cl0)))))))) ?_
  refine K.q [K.pa p, .pointer (some ⟨p, 4, none⟩)] ?_
  refine K.l (K.OW.gst 0 [K.iv 1, K.iv th, K.iv i, .int .u64 y_9, .int .u64 0, .bool true] _ hS hg_17 ?_)
  clear hS; intro w g_18 hg_19 hS
  replace hS : K.Sat w0 [g_18, rp, rd, g_14, g_2, fr] w := hS
  refine K.z (K.t (K.s (K.g ?_)))
  refine K.a (K.QR.ldN [K.iv 1, K.iv th, K.iv i, .int .u64 y_9, .int .u64 0, .bool true] rfl rfl (by kernel_rfl) (by kernel_rfl) (K.cells (K.cl ((hS.blk 3 rfl hg_15).cell rfl) (K.cl ((hS.blk 3 rfl hg_15).cell rfl) (K.cl ((hS.blk 3 rfl hg_15).cell rfl) (K.cl ((hS.blk 3 rfl hg_15).cell rfl) (K.cl ((hS.blk 3 rfl hg_15).cell rfl) (K.cl ((hS.blk 3 rfl hg_15).cell rfl) K.cl0)))))))) ?_
  refine K.l (K.OW.gst 4 [K.iv 1, K.iv th, K.iv i, .int .u64 y_9, .int .u64 0, .bool true] _ hS hg_3 ?_)
  clear hS; intro w g_20 hg_21 hS
  replace hS : K.Sat w0 [g_18, rp, rd, g_14, g_20, fr] w := hS
  refine K.z (K.t (K.r ?_))
  replace hS : K.Sat w0 [[g_18, rp, rd].flatten, g_14, g_20, fr] w := (hS.pick [0, 1, 2, 3, 4, 5]).of
  have e : M.accL n th i = (M.count (⟨1, th, i, y_9, 0, true⟩ : AccM) true, (⟨1, th, i, y_9, 0, true⟩ : AccM)) := by simp [MemM.accL, h_10]
  refine ⟨.inr rfl, rfl, (.agg #[K.iv 1, K.iv th, K.iv i, .int .u64 y_9, .int .u64 0, .bool true]), K.resAt (rs := [.cell 12 132]) [.agg #[K.iv 1, K.iv th, K.iv i, .int .u64 y_9, .int .u64 0, .bool true]] rfl ⟨⟨_, rfl, K.lvN [K.iv 1, K.iv th, K.iv i, .int .u64 y_9, .int .u64 0, .bool true] (by kernel_rfl) (by kernel_rfl) (K.cells (K.cl ((hS.blk 2 rfl hg_21).cell rfl) (K.cl ((hS.blk 2 rfl hg_21).cell rfl) (K.cl ((hS.blk 2 rfl hg_21).cell rfl) (K.cl ((hS.blk 2 rfl hg_21).cell rfl) (K.cl ((hS.blk 2 rfl hg_21).cell rfl) (K.cl ((hS.blk 2 rfl hg_21).cell rfl) K.cl0)))))))⟩, trivial⟩, [[g_18, rp, rd].flatten], ?_, hS.pick [0, 3]⟩
  exact ⟨_, by rw [e]; rfl, rfl, by rw [e]; exact ⟨_, _, _, _, _, _, rfl, hg_19, hrp, hrd, hrnp, hrn18⟩⟩
 ·
  replace hS : K.Sat w0 [l, g_7, g_2, fr] w := hS
  refine K.q [.tuple #[.int .u64 0, .bool false], .int .u64 0, .bool false, .int .u64 0, .bool false] (K.z (K.t (K.s (K.s (K.g (K.q [K.iv 1, .bool true, .bool true] (K.n_ (K.n_ (K.q [.bool true, .bool true] (K.n_ (K.n_ (K.q [.bool true] (K.z (K.t ?_))))))))))))))
  refine K.h (K.s (K.g (K.q [.int .u64 0, .pointer (some ⟨r_4, 3, none⟩)] ?_)))
  refine K.l (K.OW.gst 1 [.int .u64 0] _ hS hg_8 ?_)
  clear hS; intro w g_22 hg_23 hS
  replace hS : K.Sat w0 [l, g_22, g_2, fr] w := hS
  refine K.z (K.t (K.g (K.q [.bool false, .bool false] (K.n_ (K.n_ (K.n_ (K.n_ (K.n_ (K.n_ (K.n_ (K.q [.bool false, .pointer (some ⟨r_4, 5, none⟩)] ?_)))))))))))
  refine K.l (K.OW.gst 1 [.bool false] _ hS hg_23 ?_)
  clear hS; intro w g_24 hg_25 hS
  replace hS : K.Sat w0 [l, g_24, g_2, fr] w := hS
  refine K.z (K.t (K.s (K.s (K.g (K.q [K.iv 1, .bool false, .bool false, K.iv 1, .bool false, .bool false] (K.z (K.t (K.f (K.k (K.t (K.s (K.s (K.g (K.q [K.iv 1, .bool false] ?_))))))))))))))
  refine K.z (K.t (K.f (K.k (K.t (K.s (K.s (K.g (K.q [K.iv 1, .bool false] (K.z (K.t (K.f (K.k (K.t (K.s ?_))))))))))))))
  obtain ⟨rg, rp, rd, ra, rnp, rcp, rfl, hrg, hrp, hrd, hrnp, hrn18⟩ := x
  replace hS : K.Sat w0 [rg, rp, rd, g_24, g_2, fr] w := hS.of
  refine K.g (K.q [K.pa p, K.pa p, K.pa p, .pointer (some ⟨p, 2, none⟩)] ?_)
  refine K.d (K.iv M.clock) ((hS.blk 0 rfl hrg).cell rfl) ?_
  refine K.q [K.iv (IntKind.i64.wrap ((M.clock : Int) + (1 : Int))), K.pa p, .pointer (some ⟨p, 2, none⟩)] ?_
  refine K.l (K.OW.gst 0 [K.iv (IntKind.i64.wrap ((M.clock : Int) + (1 : Int)))] _ hS hrg ?_)
  clear hS; intro w g_26 hg_27 hS
  replace hS : K.Sat w0 [g_26, rp, rd, g_24, g_2, fr] w := hS
  refine K.z (K.t (K.s (K.s (K.g (K.q [.bool false, .bool true] (K.z (K.t (K.h (K.g (K.q [K.pa p, K.pa p, K.pa p, .pointer (some ⟨p, 3, none⟩)] ?_))))))))))
  refine K.d (K.iv M.bad) ((hS.blk 0 rfl hg_27).cell rfl) ?_
  refine K.q [K.iv (IntKind.i64.wrap ((M.bad : Int) + (1 : Int))), K.pa p, .pointer (some ⟨p, 3, none⟩)] ?_
  refine K.l (K.OW.gst 0 [K.iv (IntKind.i64.wrap ((M.bad : Int) + (1 : Int)))] _ hS hg_27 ?_)
  clear hS; intro w g_28 hg_29 hS
  replace hS : K.Sat w0 [g_28, rp, rd, g_24, g_2, fr] w := hS
  refine K.z (K.t (K.s (K.g (K.q [K.pa p] ?_))))
  refine K.a (K.QR.ldN [K.iv 1, K.iv th, K.iv i, .int .u64 0, .int .u64 0, .bool false] rfl rfl (by kernel_rfl) (by kernel_rfl) (K.cells (K.cl ((hS.blk 3 rfl hg_25).cell rfl) (K.cl ((hS.blk 3 rfl hg_25).cell rfl) (K.cl ((hS.blk 3 rfl hg_25).cell rfl) (K.cl ((hS.blk 3 rfl hg_25).cell rfl) (K.cl ((hS.blk 3 rfl hg_25).cell rfl) (K.cl ((hS.blk 3 rfl hg_25).cell rfl) K.cl0)))))))) ?_
  refine K.q [K.pa p, .pointer (some ⟨p, 4, none⟩)] ?_
  refine K.l (K.OW.gst 0 [K.iv 1, K.iv th, K.iv i, .int .u64 0, .int .u64 0, .bool false] _ hS hg_29 ?_)
  clear hS; intro w g_30 hg_31 hS
  replace hS : K.Sat w0 [g_30, rp, rd, g_24, g_2, fr] w := hS
  refine K.z (K.t (K.s (K.g ?_)))
  refine K.a (K.QR.ldN [K.iv 1, K.iv th, K.iv i, .int .u64 0, .int .u64 0, .bool false] rfl rfl (by kernel_rfl) (by kernel_rfl) (K.cells (K.cl ((hS.blk 3 rfl hg_25).cell rfl) (K.cl ((hS.blk 3 rfl hg_25).cell rfl) (K.cl ((hS.blk 3 rfl hg_25).cell rfl) (K.cl ((hS.blk 3 rfl hg_25).cell rfl) (K.cl ((hS.blk 3 rfl hg_25).cell rfl) (K.cl ((hS.blk 3 rfl hg_25).cell rfl) K.cl0)))))))) ?_
  refine K.l (K.OW.gst 4 [K.iv 1, K.iv th, K.iv i, .int .u64 0, .int .u64 0, .bool false] _ hS hg_3 ?_)
  clear hS; intro w g_32 hg_33 hS
  replace hS : K.Sat w0 [g_30, rp, rd, g_24, g_32, fr] w := hS
  refine K.z (K.t (K.r ?_))
  replace hS : K.Sat w0 [[g_30, rp, rd].flatten, g_24, g_32, fr] w := (hS.pick [0, 1, 2, 3, 4, 5]).of
  have e : M.accL n th i = (M.count (⟨1, th, i, 0, 0, false⟩ : AccM) false, (⟨1, th, i, 0, 0, false⟩ : AccM)) := by simp [MemM.accL, h_11]
  refine ⟨.inr rfl, rfl, (.agg #[K.iv 1, K.iv th, K.iv i, .int .u64 0, .int .u64 0, .bool false]), K.resAt (rs := [.cell 12 132]) [.agg #[K.iv 1, K.iv th, K.iv i, .int .u64 0, .int .u64 0, .bool false]] rfl ⟨⟨_, rfl, K.lvN [K.iv 1, K.iv th, K.iv i, .int .u64 0, .int .u64 0, .bool false] (by kernel_rfl) (by kernel_rfl) (K.cells (K.cl ((hS.blk 2 rfl hg_33).cell rfl) (K.cl ((hS.blk 2 rfl hg_33).cell rfl) (K.cl ((hS.blk 2 rfl hg_33).cell rfl) (K.cl ((hS.blk 2 rfl hg_33).cell rfl) (K.cl ((hS.blk 2 rfl hg_33).cell rfl) (K.cl ((hS.blk 2 rfl hg_33).cell rfl) K.cl0)))))))⟩, trivial⟩, [[g_30, rp, rd].flatten], ?_, hS.pick [0, 3]⟩
  exact ⟨_, by rw [e]; rfl, rfl, by rw [e]; exact ⟨_, _, _, _, _, _, rfl, hg_31, hrp, hrd, hrnp, hrn18⟩⟩
set_option maxHeartbeats 1000000 in
set_option maxRecDepth 100000 in
theorem rmDo2_ok (w0 : World) (p q n t : Nat) (M : MemM) (l : K.Cs) (x : RMemAt l p q n t M) (th i old wo : Int) (hth : isInt th) (hi : isInt i) :
  K.GC Tryz.prog w0 67 #[K.pa p, K.iv 2, K.iv th, K.iv i, .int .u64 old, .int .u64 wo] [l] (fun v post => ∃ l', v = .agg (cAcc (M.accS n th i wo).2).toArray ∧ post = [l'] ∧ RMemAt l' p q n t (M.accS n th i wo).1) := by
 refine K.GC.mk (n := 139) Tryz.func67 rfl rfl [K.pa p, K.iv 2, K.iv th, K.iv i, .int .u64 old, .int .u64 wo] rfl rfl ?_
 intro fr w hS
 replace hS : K.Sat w0 [l, fr] w := hS
 refine K.s (K.g ?_)
 refine K.l (K.OW.gnew 132 [K.iv 0, K.iv 0, K.iv 0, .int .u64 0, .int .u64 0, .bool false] hS ?_)
 clear hS; intro w r_1 g_2 hg_3 hS
 refine K.z (K.t (K.s (K.g (K.q [K.iv 2, K.iv th, K.iv i] ?_))))
 refine K.a (K.QR.bd [(0, K.iv 2), (1, K.iv th), (2, K.iv i)] [K.iv 2, K.iv th, K.iv i, .int .u64 0, .int .u64 0, .bool false] rfl rfl (by kernel_rfl)) ?_
 refine K.l (K.OW.gnew 132 [K.iv 0, K.iv 0, K.iv 0, .int .u64 0, .int .u64 0, .bool false] hS ?_)
 clear hS; intro w r_4 g_5 hg_6 hS
 refine K.l (K.OW.gst 0 [K.iv 2, K.iv th, K.iv i, .int .u64 0, .int .u64 0, .bool false] _ hS hg_6 ?_)
 clear hS; intro w g_7 hg_8 hS
 replace hS : K.Sat w0 [g_7, g_2, l, fr] w := hS
 refine K.z (K.t (K.s (K.g (K.q [K.pa p, K.iv i] ?_))))
 refine K.l (K.OW.gcall hS [2] [0, 1, 3] [K.pa p, K.iv i] (rmPeek_ok _ _ _ _ _ _ _ x i (by omega)) ?_)
 clear hS; rintro _ _ w ⟨rfl, (⟨y_9, rfl, h_10⟩ | ⟨rfl, h_11⟩)⟩ hS
 ·
  replace hS : K.Sat w0 [l, g_7, g_2, fr] w := hS
  refine K.q [.tuple #[.int .u64 y_9, .bool true], .int .u64 y_9, .bool true, .int .u64 y_9, .bool true] (K.z (K.t (K.s (K.s (K.g (K.q [K.iv 2, .bool false, .bool false, K.iv 2, .bool true, .bool true, .bool true] (K.n_ (K.n_ (K.q [.bool true] (K.z (K.t (K.h (K.s (K.g ?_))))))))))))))
  refine K.q [.int .u64 y_9, .pointer (some ⟨r_4, 3, none⟩)] ?_
  refine K.l (K.OW.gst 1 [.int .u64 y_9] _ hS hg_8 ?_)
  clear hS; intro w g_12 hg_13 hS
  replace hS : K.Sat w0 [l, g_12, g_2, fr] w := hS
  refine K.z (K.t (K.g (K.q [.bool true, .bool true, K.iv 2, .bool true, .bool true] (K.n_ (K.n_ (K.n_ (K.q [.bool true, .bool true, .pointer (some ⟨r_4, 5, none⟩)] ?_)))))))
  refine K.l (K.OW.gst 1 [.bool true] _ hS hg_13 ?_)
  clear hS; intro w g_14 hg_15 hS
  replace hS : K.Sat w0 [l, g_14, g_2, fr] w := hS
  refine K.z (K.t (K.s (K.s (K.g (K.q [K.iv 2, .bool true, .bool true] (K.n_ (K.n_ (K.q [.bool true] (K.z (K.t (K.h (K.s (K.g (K.q [.int .u64 wo, .pointer (some ⟨r_4, 4, none⟩)] ?_))))))))))))))
  refine K.l (K.OW.gst 1 [.int .u64 wo] _ hS hg_15 ?_)
  clear hS; intro w g_16 hg_17 hS
  replace hS : K.Sat w0 [l, g_16, g_2, fr] w := hS
  refine K.z (K.t (K.s (K.s (K.g (K.q [.pointer (some ⟨r_4, 5, none⟩)] ?_)))))
  refine K.d (.bool true) ((hS.blk 1 rfl hg_17).cell rfl) ?_
  refine K.q [.bool true, K.iv i] ?_
  by_cases h_18 : (i : Int) ≥ (0 : Int)
  ·
   refine K.y ((i : Int) ≥ (0 : Int)) h_18 ?_
   refine K.q [.bool true] (K.z (K.t (K.h ?_)))
   have hv := peek_some h_10
   obtain ⟨rg, rp, rd, ra, rnp, rcp, rfl, hrg, hrp, hrd, hrnp, hrn18⟩ := x
   replace hS : K.Sat w0 [rg, rp, rd, g_16, g_2, fr] w := hS.of
   obtain ⟨g, gk, gs, gw, gf, gz, vs, ka, sa, wa, fa, ck, cs, cw, cf, rfl, hg, ok, os, ow, of, lv, oz, dk⟩ := hrd
   have dk2 := dk; obtain ⟨lk, ls, lw, lf, lB, n0, n1, t0, t1⟩ := dk2
   replace hS : K.Sat w0 [rg, rp, g, gk, gs, gw, gf, gz, g_16, g_2, fr] w := hS.of
   refine K.g (K.q [K.pa p, K.pa p, K.pa p] ?_)
   refine K.d (K.pa q) ((hS.blk 0 rfl hrg).cell rfl) ?_
   refine K.q [K.pa q, .pointer (some ⟨q, 1, none⟩)] ?_
   refine K.d (.slice sa (n * 8) cs) ((hS.blk 2 rfl hg).cell rfl) ?_
   refine K.q [K.iv i, .int .u64 wo] ?_
   obtain ⟨b_19, rfl⟩ := os.some_ (by have := os.le; omega)
   refine K.a (K.QR.ix i.toNat 1 rfl rfl rfl Tryz.underlying78 (by kernel_rfl) (by omega) (by first | (simp; done) | omega | (simp; omega))) ?_
   refine K.l (K.OW.grst 4 i.toNat [.int .u64 wo] (((M.dev.seen.set i.toNat wo)).flatMap cU64) hS os ?_ (by show _ + 1 ≤ _; omega) (K.set1 (c := cU64) M.dev.seen i.toNat wo (by have := ls; omega)))
   clear hS; intro w l_21 o_22 hS
   have ln_23 : ((M.dev.seen.set i.toNat wo)).length = _ := (List.length_set).trans ls
   replace hS : K.Sat w0 [rg, rp, g, gk, l_21, gw, gf, gz, g_16, g_2, fr] w := hS
   refine K.z (K.t (K.s (K.g (K.q [.pointer (some ⟨r_4, 5, none⟩)] ?_))))
   refine K.d (.bool true) ((hS.blk 8 rfl hg_17).cell rfl) ?_
   refine K.q [.bool true, K.iv i] ?_
   refine K.x ((i : Int) < (0 : Int)) (by omega) ?_
   refine K.q [.bool false] (K.z (K.t (K.f (K.k (K.t (K.s (K.s (K.g (K.q [K.iv 2, .bool false] (K.z (K.t (K.f (K.k (K.t ?_))))))))))))))
   refine K.s (K.s (K.g (K.q [K.iv 2, .bool false] (K.z (K.t (K.f (K.k (K.t (K.s (K.g (K.q [K.pa p, K.pa p, K.pa p, .pointer (some ⟨p, 2, none⟩)] ?_)))))))))))
   refine K.d (K.iv M.clock) ((hS.blk 0 rfl hrg).cell rfl) ?_
   refine K.q [K.iv (IntKind.i64.wrap ((M.clock : Int) + (1 : Int))), K.pa p, .pointer (some ⟨p, 2, none⟩)] ?_
   refine K.l (K.OW.gst 0 [K.iv (IntKind.i64.wrap ((M.clock : Int) + (1 : Int)))] _ hS hrg ?_)
   clear hS; intro w g_24 hg_25 hS
   replace hS : K.Sat w0 [g_24, rp, g, gk, l_21, gw, gf, gz, g_16, g_2, fr] w := hS
   refine K.z (K.t (K.s (K.s (K.g (K.q [.bool true, .bool false] (K.z (K.t (K.f (K.k (K.t (K.s (K.g (K.q [K.pa p] ?_)))))))))))))
   refine K.a (K.QR.ldN [K.iv 2, K.iv th, K.iv i, .int .u64 y_9, .int .u64 wo, .bool true] rfl rfl (by kernel_rfl) (by kernel_rfl) (K.cells (K.cl ((hS.blk 8 rfl hg_17).cell rfl) (K.cl ((hS.blk 8 rfl hg_17).cell rfl) (K.cl ((hS.blk 8 rfl hg_17).cell rfl) (K.cl ((hS.blk 8 rfl hg_17).cell rfl) (K.cl ((hS.blk 8 rfl hg_17).cell rfl) (K.cl ((hS.blk 8 rfl hg_17).cell rfl) K.cl0)))))))) ?_
   refine K.q [K.pa p, .pointer (some ⟨p, 4, none⟩)] ?_
   refine K.l (K.OW.gst 0 [K.iv 2, K.iv th, K.iv i, .int .u64 y_9, .int .u64 wo, .bool true] _ hS hg_25 ?_)
   clear hS; intro w g_26 hg_27 hS
   replace hS : K.Sat w0 [g_26, rp, g, gk, l_21, gw, gf, gz, g_16, g_2, fr] w := hS
   refine K.z (K.t (K.s (K.g ?_)))
   refine K.a (K.QR.ldN [K.iv 2, K.iv th, K.iv i, .int .u64 y_9, .int .u64 wo, .bool true] rfl rfl (by kernel_rfl) (by kernel_rfl) (K.cells (K.cl ((hS.blk 8 rfl hg_17).cell rfl) (K.cl ((hS.blk 8 rfl hg_17).cell rfl) (K.cl ((hS.blk 8 rfl hg_17).cell rfl) (K.cl ((hS.blk 8 rfl hg_17).cell rfl) (K.cl ((hS.blk 8 rfl hg_17).cell rfl) (K.cl ((hS.blk 8 rfl hg_17).cell rfl) K.cl0)))))))) ?_
   refine K.l (K.OW.gst 9 [K.iv 2, K.iv th, K.iv i, .int .u64 y_9, .int .u64 wo, .bool true] _ hS hg_3 ?_)
   clear hS; intro w g_28 hg_29 hS
   replace hS : K.Sat w0 [g_26, rp, g, gk, l_21, gw, gf, gz, g_16, g_28, fr] w := hS
   refine K.z (K.t (K.r ?_))
   replace hS : K.Sat w0 [[g, gk, l_21, gw, gf, gz].flatten, g_26, rp, g_16, g_28, fr] w := (hS.pick [2, 3, 4, 5, 6, 7, 0, 1, 8, 9, 10]).of
   have xd_30 : RDevAt ([g, gk, l_21, gw, gf, gz].flatten) q n t (M.dev.store i.toNat wo) := ⟨_, _, _, _, _, _, _, _, _, _, _, _, _, _, _, rfl, hg, ok, o_22, ow, of, lv, oz, dk.store⟩
   generalize [g, gk, l_21, gw, gf, gz].flatten = ld_31 at hS xd_30
   replace hS : K.Sat w0 [[g_26, rp, ld_31].flatten, g_16, g_28, fr] w := (hS.pick [1, 2, 0, 3, 4, 5]).of
   have e : M.accS n th i wo = ((M.put i wo).count (⟨2, th, i, y_9, wo, true⟩ : AccM) true, (⟨2, th, i, y_9, wo, true⟩ : AccM)) := by simp [MemM.accS, h_10]
   refine ⟨.inr rfl, rfl, (.agg #[K.iv 2, K.iv th, K.iv i, .int .u64 y_9, .int .u64 wo, .bool true]), K.resAt (rs := [.cell 12 132]) [.agg #[K.iv 2, K.iv th, K.iv i, .int .u64 y_9, .int .u64 wo, .bool true]] rfl ⟨⟨_, rfl, K.lvN [K.iv 2, K.iv th, K.iv i, .int .u64 y_9, .int .u64 wo, .bool true] (by kernel_rfl) (by kernel_rfl) (K.cells (K.cl ((hS.blk 2 rfl hg_29).cell rfl) (K.cl ((hS.blk 2 rfl hg_29).cell rfl) (K.cl ((hS.blk 2 rfl hg_29).cell rfl) (K.cl ((hS.blk 2 rfl hg_29).cell rfl) (K.cl ((hS.blk 2 rfl hg_29).cell rfl) (K.cl ((hS.blk 2 rfl hg_29).cell rfl) K.cl0)))))))⟩, trivial⟩, [[g_26, rp, ld_31].flatten], ?_, hS.pick [0, 3]⟩
   exact ⟨_, by rw [e]; rfl, rfl, by rw [e]; rw [putD (by omega)]; exact ⟨_, _, _, _, _, _, rfl, hg_27, hrp, xd_30, hrnp, hrn18⟩⟩
  ·
   refine K.x ((i : Int) ≥ (0 : Int)) h_18 ?_
   refine K.q [.bool false] (K.z (K.t (K.f (K.k (K.t (K.s (K.g (K.q [.pointer (some ⟨r_4, 5, none⟩)] ?_))))))))
   refine K.d (.bool true) ((hS.blk 1 rfl hg_17).cell rfl) ?_
   refine K.q [.bool true, K.iv i] ?_
   refine K.y ((i : Int) < (0 : Int)) (by omega) ?_
   refine K.q [.bool true] (K.z (K.t (K.h ?_)))
   have hv := peek_some h_10
   obtain ⟨rg, rp, rd, ra, rnp, rcp, rfl, hrg, hrp, hrd, hrnp, hrn18⟩ := x
   replace hS : K.Sat w0 [rg, rp, rd, g_16, g_2, fr] w := hS.of
   refine K.g (K.q [K.pa p, K.pa p, .pointer (some ⟨p, 1, none⟩)] ?_)
   refine K.d (.slice ra rnp rcp) ((hS.blk 0 rfl hrg).cell rfl) ?_
   refine K.q [K.iv i] ?_
   refine K.a (K.QR.n64 (((-1) : Int) - (i : Int)) (((-1) : Int) - (i : Int)) (by kernel_rfl) (by omega)) ?_
   refine K.q [.int .u64 wo] ?_
   obtain ⟨b_32, rfl⟩ := hrp.some_ (by have := hrp.le; omega)
   refine K.a (K.QR.ix ((((-1) : Int) - (i : Int)).toNat) 1 rfl rfl rfl Tryz.underlying78 (by kernel_rfl) (by omega) (by first | (simp; done) | omega | (simp; omega))) ?_
   refine K.l (K.OW.grst 1 ((((-1) : Int) - (i : Int)).toNat) [.int .u64 wo] (((M.pass.set ((((-1) : Int) - (i : Int)).toNat) wo)).flatMap cU64) hS hrp ?_ (by show _ + 1 ≤ _; omega) (K.set1 (c := cU64) M.pass ((((-1) : Int) - (i : Int)).toNat) wo (by have := hrnp; omega)))
   clear hS; intro w l_34 o_35 hS
   have ln_36 : ((M.pass.set ((((-1) : Int) - (i : Int)).toNat) wo)).length = _ := (List.length_set).trans hrnp
   replace hS : K.Sat w0 [rg, l_34, rd, g_16, g_2, fr] w := hS
   refine K.z (K.t (K.s (K.s (K.g (K.q [K.iv 2, .bool false] (K.z (K.t (K.f (K.k (K.t (K.s (K.s (K.g (K.q [K.iv 2, .bool false] ?_))))))))))))))
   refine K.z (K.t (K.f (K.k (K.t (K.s (K.g (K.q [K.pa p, K.pa p, K.pa p, .pointer (some ⟨p, 2, none⟩)] ?_)))))))
   refine K.d (K.iv M.clock) ((hS.blk 0 rfl hrg).cell rfl) ?_
   refine K.q [K.iv (IntKind.i64.wrap ((M.clock : Int) + (1 : Int))), K.pa p, .pointer (some ⟨p, 2, none⟩)] ?_
   refine K.l (K.OW.gst 0 [K.iv (IntKind.i64.wrap ((M.clock : Int) + (1 : Int)))] _ hS hrg ?_)
   clear hS; intro w g_37 hg_38 hS
   replace hS : K.Sat w0 [g_37, l_34, rd, g_16, g_2, fr] w := hS
   refine K.z (K.t (K.s (K.s (K.g (K.q [.bool true, .bool false] (K.z (K.t (K.f (K.k (K.t (K.s (K.g (K.q [K.pa p] ?_)))))))))))))
   refine K.a (K.QR.ldN [K.iv 2, K.iv th, K.iv i, .int .u64 y_9, .int .u64 wo, .bool true] rfl rfl (by kernel_rfl) (by kernel_rfl) (K.cells (K.cl ((hS.blk 3 rfl hg_17).cell rfl) (K.cl ((hS.blk 3 rfl hg_17).cell rfl) (K.cl ((hS.blk 3 rfl hg_17).cell rfl) (K.cl ((hS.blk 3 rfl hg_17).cell rfl) (K.cl ((hS.blk 3 rfl hg_17).cell rfl) (K.cl ((hS.blk 3 rfl hg_17).cell rfl) K.cl0)))))))) ?_
   refine K.q [K.pa p, .pointer (some ⟨p, 4, none⟩)] ?_
   refine K.l (K.OW.gst 0 [K.iv 2, K.iv th, K.iv i, .int .u64 y_9, .int .u64 wo, .bool true] _ hS hg_38 ?_)
   clear hS; intro w g_39 hg_40 hS
   replace hS : K.Sat w0 [g_39, l_34, rd, g_16, g_2, fr] w := hS
   refine K.z (K.t (K.s (K.g ?_)))
   refine K.a (K.QR.ldN [K.iv 2, K.iv th, K.iv i, .int .u64 y_9, .int .u64 wo, .bool true] rfl rfl (by kernel_rfl) (by kernel_rfl) (K.cells (K.cl ((hS.blk 3 rfl hg_17).cell rfl) (K.cl ((hS.blk 3 rfl hg_17).cell rfl) (K.cl ((hS.blk 3 rfl hg_17).cell rfl) (K.cl ((hS.blk 3 rfl hg_17).cell rfl) (K.cl ((hS.blk 3 rfl hg_17).cell rfl) (K.cl ((hS.blk 3 rfl hg_17).cell rfl) K.cl0)))))))) ?_
   refine K.l (K.OW.gst 4 [K.iv 2, K.iv th, K.iv i, .int .u64 y_9, .int .u64 wo, .bool true] _ hS hg_3 ?_)
   clear hS; intro w g_41 hg_42 hS
   replace hS : K.Sat w0 [g_39, l_34, rd, g_16, g_41, fr] w := hS
   refine K.z (K.t (K.r ?_))
   replace hS : K.Sat w0 [[g_39, l_34, rd].flatten, g_16, g_41, fr] w := (hS.pick [0, 1, 2, 3, 4, 5]).of
   have e : M.accS n th i wo = ((M.put i wo).count (⟨2, th, i, y_9, wo, true⟩ : AccM) true, (⟨2, th, i, y_9, wo, true⟩ : AccM)) := by simp [MemM.accS, h_10]
   refine ⟨.inr rfl, rfl, (.agg #[K.iv 2, K.iv th, K.iv i, .int .u64 y_9, .int .u64 wo, .bool true]), K.resAt (rs := [.cell 12 132]) [.agg #[K.iv 2, K.iv th, K.iv i, .int .u64 y_9, .int .u64 wo, .bool true]] rfl ⟨⟨_, rfl, K.lvN [K.iv 2, K.iv th, K.iv i, .int .u64 y_9, .int .u64 wo, .bool true] (by kernel_rfl) (by kernel_rfl) (K.cells (K.cl ((hS.blk 2 rfl hg_42).cell rfl) (K.cl ((hS.blk 2 rfl hg_42).cell rfl) (K.cl ((hS.blk 2 rfl hg_42).cell rfl) (K.cl ((hS.blk 2 rfl hg_42).cell rfl) (K.cl ((hS.blk 2 rfl hg_42).cell rfl) (K.cl ((hS.blk 2 rfl hg_42).cell rfl) K.cl0)))))))⟩, trivial⟩, [[g_39, l_34, rd].flatten], ?_, hS.pick [0, 3]⟩
   exact ⟨_, by rw [e]; rfl, rfl, by rw [e]; rw [putP (by omega)]; exact ⟨_, _, _, _, _, _, rfl, hg_40, o_35, hrd, ln_36, hrn18⟩⟩
 ·
  replace hS : K.Sat w0 [l, g_7, g_2, fr] w := hS
  refine K.q [.tuple #[.int .u64 0, .bool false], .int .u64 0, .bool false, .int .u64 0, .bool false] (K.z (K.t (K.s (K.s (K.g (K.q [K.iv 2, .bool false, .bool false, K.iv 2, .bool true, .bool true, .bool true] (K.n_ (K.n_ (K.q [.bool true] (K.z (K.t (K.h (K.s (K.g ?_))))))))))))))
  refine K.q [.int .u64 0, .pointer (some ⟨r_4, 3, none⟩)] ?_
  refine K.l (K.OW.gst 1 [.int .u64 0] _ hS hg_8 ?_)
  clear hS; intro w g_43 hg_44 hS
  replace hS : K.Sat w0 [l, g_43, g_2, fr] w := hS
  refine K.z (K.t (K.g (K.q [.bool false, .bool false] (K.n_ (K.n_ (K.n_ (K.n_ (K.n_ (K.n_ (K.n_ (K.q [.bool false, .pointer (some ⟨r_4, 5, none⟩)] ?_)))))))))))
  refine K.l (K.OW.gst 1 [.bool false] _ hS hg_44 ?_)
  clear hS; intro w g_45 hg_46 hS
  replace hS : K.Sat w0 [l, g_45, g_2, fr] w := hS
  refine K.z (K.t (K.s (K.s (K.g (K.q [K.iv 2, .bool true, .bool true] (K.n_ (K.n_ (K.q [.bool true] (K.z (K.t (K.h (K.s (K.g (K.q [.int .u64 wo, .pointer (some ⟨r_4, 4, none⟩)] ?_))))))))))))))
  refine K.l (K.OW.gst 1 [.int .u64 wo] _ hS hg_46 ?_)
  clear hS; intro w g_47 hg_48 hS
  replace hS : K.Sat w0 [l, g_47, g_2, fr] w := hS
  refine K.z (K.t (K.s (K.s (K.g (K.q [.pointer (some ⟨r_4, 5, none⟩)] ?_)))))
  refine K.d (.bool false) ((hS.blk 1 rfl hg_48).cell rfl) ?_
  refine K.q [.bool false] (K.n_ (K.n_ (K.q [.bool false] (K.z (K.t (K.f (K.k (K.t (K.s (K.g (K.q [.pointer (some ⟨r_4, 5, none⟩)] ?_)))))))))))
  refine K.d (.bool false) ((hS.blk 1 rfl hg_48).cell rfl) ?_
  refine K.q [.bool false] (K.n_ (K.n_ (K.q [.bool false] (K.z (K.t (K.f (K.k (K.t (K.s (K.s (K.g (K.q [K.iv 2, .bool false] (K.z (K.t ?_))))))))))))))
  refine K.f (K.k (K.t (K.s (K.s (K.g (K.q [K.iv 2, .bool false] (K.z (K.t (K.f (K.k (K.t (K.s ?_))))))))))))
  obtain ⟨rg, rp, rd, ra, rnp, rcp, rfl, hrg, hrp, hrd, hrnp, hrn18⟩ := x
  replace hS : K.Sat w0 [rg, rp, rd, g_47, g_2, fr] w := hS.of
  refine K.g (K.q [K.pa p, K.pa p, K.pa p, .pointer (some ⟨p, 2, none⟩)] ?_)
  refine K.d (K.iv M.clock) ((hS.blk 0 rfl hrg).cell rfl) ?_
  refine K.q [K.iv (IntKind.i64.wrap ((M.clock : Int) + (1 : Int))), K.pa p, .pointer (some ⟨p, 2, none⟩)] ?_
  refine K.l (K.OW.gst 0 [K.iv (IntKind.i64.wrap ((M.clock : Int) + (1 : Int)))] _ hS hrg ?_)
  clear hS; intro w g_49 hg_50 hS
  replace hS : K.Sat w0 [g_49, rp, rd, g_47, g_2, fr] w := hS
  refine K.z (K.t (K.s (K.s (K.g (K.q [.bool false, .bool true] (K.z (K.t (K.h (K.g (K.q [K.pa p, K.pa p, K.pa p, .pointer (some ⟨p, 3, none⟩)] ?_))))))))))
  refine K.d (K.iv M.bad) ((hS.blk 0 rfl hg_50).cell rfl) ?_
  refine K.q [K.iv (IntKind.i64.wrap ((M.bad : Int) + (1 : Int))), K.pa p, .pointer (some ⟨p, 3, none⟩)] ?_
  refine K.l (K.OW.gst 0 [K.iv (IntKind.i64.wrap ((M.bad : Int) + (1 : Int)))] _ hS hg_50 ?_)
  clear hS; intro w g_51 hg_52 hS
  replace hS : K.Sat w0 [g_51, rp, rd, g_47, g_2, fr] w := hS
  refine K.z (K.t (K.s (K.g (K.q [K.pa p] ?_))))
  refine K.a (K.QR.ldN [K.iv 2, K.iv th, K.iv i, .int .u64 0, .int .u64 wo, .bool false] rfl rfl (by kernel_rfl) (by kernel_rfl) (K.cells (K.cl ((hS.blk 3 rfl hg_48).cell rfl) (K.cl ((hS.blk 3 rfl hg_48).cell rfl) (K.cl ((hS.blk 3 rfl hg_48).cell rfl) (K.cl ((hS.blk 3 rfl hg_48).cell rfl) (K.cl ((hS.blk 3 rfl hg_48).cell rfl) (K.cl ((hS.blk 3 rfl hg_48).cell rfl) K.cl0)))))))) ?_
  refine K.q [K.pa p, .pointer (some ⟨p, 4, none⟩)] ?_
  refine K.l (K.OW.gst 0 [K.iv 2, K.iv th, K.iv i, .int .u64 0, .int .u64 wo, .bool false] _ hS hg_52 ?_)
  clear hS; intro w g_53 hg_54 hS
  replace hS : K.Sat w0 [g_53, rp, rd, g_47, g_2, fr] w := hS
  refine K.z (K.t (K.s (K.g ?_)))
  refine K.a (K.QR.ldN [K.iv 2, K.iv th, K.iv i, .int .u64 0, .int .u64 wo, .bool false] rfl rfl (by kernel_rfl) (by kernel_rfl) (K.cells (K.cl ((hS.blk 3 rfl hg_48).cell rfl) (K.cl ((hS.blk 3 rfl hg_48).cell rfl) (K.cl ((hS.blk 3 rfl hg_48).cell rfl) (K.cl ((hS.blk 3 rfl hg_48).cell rfl) (K.cl ((hS.blk 3 rfl hg_48).cell rfl) (K.cl ((hS.blk 3 rfl hg_48).cell rfl) K.cl0)))))))) ?_
  refine K.l (K.OW.gst 4 [K.iv 2, K.iv th, K.iv i, .int .u64 0, .int .u64 wo, .bool false] _ hS hg_3 ?_)
  clear hS; intro w g_55 hg_56 hS
  replace hS : K.Sat w0 [g_53, rp, rd, g_47, g_55, fr] w := hS
  refine K.z (K.t (K.r ?_))
  replace hS : K.Sat w0 [[g_53, rp, rd].flatten, g_47, g_55, fr] w := (hS.pick [0, 1, 2, 3, 4, 5]).of
  have e : M.accS n th i wo = (M.count (⟨2, th, i, 0, wo, false⟩ : AccM) false, (⟨2, th, i, 0, wo, false⟩ : AccM)) := by simp [MemM.accS, h_11]
  refine ⟨.inr rfl, rfl, (.agg #[K.iv 2, K.iv th, K.iv i, .int .u64 0, .int .u64 wo, .bool false]), K.resAt (rs := [.cell 12 132]) [.agg #[K.iv 2, K.iv th, K.iv i, .int .u64 0, .int .u64 wo, .bool false]] rfl ⟨⟨_, rfl, K.lvN [K.iv 2, K.iv th, K.iv i, .int .u64 0, .int .u64 wo, .bool false] (by kernel_rfl) (by kernel_rfl) (K.cells (K.cl ((hS.blk 2 rfl hg_56).cell rfl) (K.cl ((hS.blk 2 rfl hg_56).cell rfl) (K.cl ((hS.blk 2 rfl hg_56).cell rfl) (K.cl ((hS.blk 2 rfl hg_56).cell rfl) (K.cl ((hS.blk 2 rfl hg_56).cell rfl) (K.cl ((hS.blk 2 rfl hg_56).cell rfl) K.cl0)))))))⟩, trivial⟩, [[g_53, rp, rd].flatten], ?_, hS.pick [0, 3]⟩
  exact ⟨_, by rw [e]; rfl, rfl, by rw [e]; exact ⟨_, _, _, _, _, _, rfl, hg_54, hrp, hrd, hrnp, hrn18⟩⟩
set_option maxHeartbeats 1000000 in
set_option maxRecDepth 100000 in
theorem rmDo3_ok (w0 : World) (p q n t : Nat) (M : MemM) (l : K.Cs) (x : RMemAt l p q n t M) (th i old wo : Int) (hth : isInt th) (hi : isInt i) :
  K.GC Tryz.prog w0 67 #[K.pa p, K.iv 3, K.iv th, K.iv i, .int .u64 old, .int .u64 wo] [l] (fun v post => ∃ l', v = .agg (cAcc (M.accW n th i old wo).2).toArray ∧ post = [l'] ∧ RMemAt l' p q n t (M.accW n th i old wo).1) := by
 refine K.GC.mk (n := 139) Tryz.func67 rfl rfl [K.pa p, K.iv 3, K.iv th, K.iv i, .int .u64 old, .int .u64 wo] rfl rfl ?_
 intro fr w hS
 replace hS : K.Sat w0 [l, fr] w := hS
 refine K.s (K.g ?_)
 refine K.l (K.OW.gnew 132 [K.iv 0, K.iv 0, K.iv 0, .int .u64 0, .int .u64 0, .bool false] hS ?_)
 clear hS; intro w r_1 g_2 hg_3 hS
 refine K.z (K.t (K.s (K.g (K.q [K.iv 3, K.iv th, K.iv i] ?_))))
 refine K.a (K.QR.bd [(0, K.iv 3), (1, K.iv th), (2, K.iv i)] [K.iv 3, K.iv th, K.iv i, .int .u64 0, .int .u64 0, .bool false] rfl rfl (by kernel_rfl)) ?_
 refine K.l (K.OW.gnew 132 [K.iv 0, K.iv 0, K.iv 0, .int .u64 0, .int .u64 0, .bool false] hS ?_)
 clear hS; intro w r_4 g_5 hg_6 hS
 refine K.l (K.OW.gst 0 [K.iv 3, K.iv th, K.iv i, .int .u64 0, .int .u64 0, .bool false] _ hS hg_6 ?_)
 clear hS; intro w g_7 hg_8 hS
 replace hS : K.Sat w0 [g_7, g_2, l, fr] w := hS
 refine K.z (K.t (K.s (K.g (K.q [K.pa p, K.iv i] ?_))))
 refine K.l (K.OW.gcall hS [2] [0, 1, 3] [K.pa p, K.iv i] (rmPeek_ok _ _ _ _ _ _ _ x i (by omega)) ?_)
 clear hS; rintro _ _ w ⟨rfl, (⟨y_9, rfl, h_10⟩ | ⟨rfl, h_11⟩)⟩ hS
 ·
  replace hS : K.Sat w0 [l, g_7, g_2, fr] w := hS
  refine K.q [.tuple #[.int .u64 y_9, .bool true], .int .u64 y_9, .bool true, .int .u64 y_9, .bool true] (K.z (K.t (K.s (K.s (K.g (K.q [K.iv 3, .bool false, .bool false, K.iv 3, .bool false, .bool false, .bool false, K.iv 3, .bool true, .bool true] (K.z (K.t (K.h (K.s (K.g (K.q [.int .u64 y_9, .pointer (some ⟨r_4, 3, none⟩)] ?_))))))))))))
  refine K.l (K.OW.gst 1 [.int .u64 y_9] _ hS hg_8 ?_)
  clear hS; intro w g_12 hg_13 hS
  replace hS : K.Sat w0 [l, g_12, g_2, fr] w := hS
  refine K.z (K.t (K.g (K.q [.bool true, .bool true, K.iv 3, .bool false, .bool false, .int .u64 y_9, .int .u64 old] ?_)))
  by_cases h_14 : (y_9 : Int) = (old : Int)
  ·
   refine K.ye (y_9 : Int) (old : Int) h_14 ?_
   refine K.q [.bool true, .bool true, .pointer (some ⟨r_4, 5, none⟩)] ?_
   refine K.l (K.OW.gst 1 [.bool true] _ hS hg_13 ?_)
   clear hS; intro w g_15 hg_16 hS
   replace hS : K.Sat w0 [l, g_15, g_2, fr] w := hS
   refine K.z (K.t (K.s (K.s (K.g (K.q [K.iv 3, .bool false, .bool false, K.iv 3, .bool true, .bool true] (K.z (K.t (K.h (K.s (K.g (K.q [.int .u64 wo, .pointer (some ⟨r_4, 4, none⟩)] ?_)))))))))))
   refine K.l (K.OW.gst 1 [.int .u64 wo] _ hS hg_16 ?_)
   clear hS; intro w g_17 hg_18 hS
   replace hS : K.Sat w0 [l, g_17, g_2, fr] w := hS
   refine K.z (K.t (K.s (K.s (K.g (K.q [.pointer (some ⟨r_4, 5, none⟩)] ?_)))))
   refine K.d (.bool true) ((hS.blk 1 rfl hg_18).cell rfl) ?_
   refine K.q [.bool true, K.iv i] ?_
   by_cases h_19 : (i : Int) ≥ (0 : Int)
   ·
    refine K.y ((i : Int) ≥ (0 : Int)) h_19 ?_
    refine K.q [.bool true] (K.z (K.t (K.h ?_)))
    have hv := peek_some h_10
    obtain ⟨rg, rp, rd, ra, rnp, rcp, rfl, hrg, hrp, hrd, hrnp, hrn18⟩ := x
    replace hS : K.Sat w0 [rg, rp, rd, g_17, g_2, fr] w := hS.of
    obtain ⟨g, gk, gs, gw, gf, gz, vs, ka, sa, wa, fa, ck, cs, cw, cf, rfl, hg, ok, os, ow, of, lv, oz, dk⟩ := hrd
    have dk2 := dk; obtain ⟨lk, ls, lw, lf, lB, n0, n1, t0, t1⟩ := dk2
    replace hS : K.Sat w0 [rg, rp, g, gk, gs, gw, gf, gz, g_17, g_2, fr] w := hS.of
    refine K.g (K.q [K.pa p, K.pa p, K.pa p] ?_)
    refine K.d (K.pa q) ((hS.blk 0 rfl hrg).cell rfl) ?_
    refine K.q [K.pa q, .pointer (some ⟨q, 1, none⟩)] ?_
    refine K.d (.slice sa (n * 8) cs) ((hS.blk 2 rfl hg).cell rfl) ?_
    refine K.q [K.iv i, .int .u64 wo] ?_
    obtain ⟨b_20, rfl⟩ := os.some_ (by have := os.le; omega)
    refine K.a (K.QR.ix i.toNat 1 rfl rfl rfl Tryz.underlying78 (by kernel_rfl) (by omega) (by first | (simp; done) | omega | (simp; omega))) ?_
    refine K.l (K.OW.grst 4 i.toNat [.int .u64 wo] (((M.dev.seen.set i.toNat wo)).flatMap cU64) hS os ?_ (by show _ + 1 ≤ _; omega) (K.set1 (c := cU64) M.dev.seen i.toNat wo (by have := ls; omega)))
    clear hS; intro w l_22 o_23 hS
    have ln_24 : ((M.dev.seen.set i.toNat wo)).length = _ := (List.length_set).trans ls
    replace hS : K.Sat w0 [rg, rp, g, gk, l_22, gw, gf, gz, g_17, g_2, fr] w := hS
    refine K.z (K.t (K.s (K.g (K.q [.pointer (some ⟨r_4, 5, none⟩)] ?_))))
    refine K.d (.bool true) ((hS.blk 8 rfl hg_18).cell rfl) ?_
    refine K.q [.bool true, K.iv i] ?_
    refine K.x ((i : Int) < (0 : Int)) (by omega) ?_
    refine K.q [.bool false] (K.z (K.t (K.f (K.k (K.t (K.s (K.s (K.g (K.q [K.iv 3, .bool false] (K.z (K.t (K.f (K.k (K.t ?_))))))))))))))
    refine K.s (K.s (K.g (K.q [K.iv 3, .bool false] (K.z (K.t (K.f (K.k (K.t (K.s (K.g (K.q [K.pa p, K.pa p, K.pa p, .pointer (some ⟨p, 2, none⟩)] ?_)))))))))))
    refine K.d (K.iv M.clock) ((hS.blk 0 rfl hrg).cell rfl) ?_
    refine K.q [K.iv (IntKind.i64.wrap ((M.clock : Int) + (1 : Int))), K.pa p, .pointer (some ⟨p, 2, none⟩)] ?_
    refine K.l (K.OW.gst 0 [K.iv (IntKind.i64.wrap ((M.clock : Int) + (1 : Int)))] _ hS hrg ?_)
    clear hS; intro w g_25 hg_26 hS
    replace hS : K.Sat w0 [g_25, rp, g, gk, l_22, gw, gf, gz, g_17, g_2, fr] w := hS
    refine K.z (K.t (K.s (K.s (K.g (K.q [.bool true, .bool false] (K.z (K.t (K.f (K.k (K.t (K.s (K.g (K.q [K.pa p] ?_)))))))))))))
    refine K.a (K.QR.ldN [K.iv 3, K.iv th, K.iv i, .int .u64 y_9, .int .u64 wo, .bool true] rfl rfl (by kernel_rfl) (by kernel_rfl) (K.cells (K.cl ((hS.blk 8 rfl hg_18).cell rfl) (K.cl ((hS.blk 8 rfl hg_18).cell rfl) (K.cl ((hS.blk 8 rfl hg_18).cell rfl) (K.cl ((hS.blk 8 rfl hg_18).cell rfl) (K.cl ((hS.blk 8 rfl hg_18).cell rfl) (K.cl ((hS.blk 8 rfl hg_18).cell rfl) K.cl0)))))))) ?_
    refine K.q [K.pa p, .pointer (some ⟨p, 4, none⟩)] ?_
    refine K.l (K.OW.gst 0 [K.iv 3, K.iv th, K.iv i, .int .u64 y_9, .int .u64 wo, .bool true] _ hS hg_26 ?_)
    clear hS; intro w g_27 hg_28 hS
    replace hS : K.Sat w0 [g_27, rp, g, gk, l_22, gw, gf, gz, g_17, g_2, fr] w := hS
    refine K.z (K.t (K.s (K.g ?_)))
    refine K.a (K.QR.ldN [K.iv 3, K.iv th, K.iv i, .int .u64 y_9, .int .u64 wo, .bool true] rfl rfl (by kernel_rfl) (by kernel_rfl) (K.cells (K.cl ((hS.blk 8 rfl hg_18).cell rfl) (K.cl ((hS.blk 8 rfl hg_18).cell rfl) (K.cl ((hS.blk 8 rfl hg_18).cell rfl) (K.cl ((hS.blk 8 rfl hg_18).cell rfl) (K.cl ((hS.blk 8 rfl hg_18).cell rfl) (K.cl ((hS.blk 8 rfl hg_18).cell rfl) K.cl0)))))))) ?_
    refine K.l (K.OW.gst 9 [K.iv 3, K.iv th, K.iv i, .int .u64 y_9, .int .u64 wo, .bool true] _ hS hg_3 ?_)
    clear hS; intro w g_29 hg_30 hS
    replace hS : K.Sat w0 [g_27, rp, g, gk, l_22, gw, gf, gz, g_17, g_29, fr] w := hS
    refine K.z (K.t (K.r ?_))
    replace hS : K.Sat w0 [[g, gk, l_22, gw, gf, gz].flatten, g_27, rp, g_17, g_29, fr] w := (hS.pick [2, 3, 4, 5, 6, 7, 0, 1, 8, 9, 10]).of
    have xd_31 : RDevAt ([g, gk, l_22, gw, gf, gz].flatten) q n t (M.dev.store i.toNat wo) := ⟨_, _, _, _, _, _, _, _, _, _, _, _, _, _, _, rfl, hg, ok, o_23, ow, of, lv, oz, dk.store⟩
    generalize [g, gk, l_22, gw, gf, gz].flatten = ld_32 at hS xd_31
    have hb : ((y_9 : Int) == old) = true := by simp; omega
    replace hS : K.Sat w0 [[g_27, rp, ld_32].flatten, g_17, g_29, fr] w := (hS.pick [1, 2, 0, 3, 4, 5]).of
    have e : M.accW n th i old wo = ((M.put i wo).count (⟨3, th, i, y_9, wo, true⟩ : AccM) true, (⟨3, th, i, y_9, wo, true⟩ : AccM)) := by simp [MemM.accW, h_10, hb]
    refine ⟨.inr rfl, rfl, (.agg #[K.iv 3, K.iv th, K.iv i, .int .u64 y_9, .int .u64 wo, .bool true]), K.resAt (rs := [.cell 12 132]) [.agg #[K.iv 3, K.iv th, K.iv i, .int .u64 y_9, .int .u64 wo, .bool true]] rfl ⟨⟨_, rfl, K.lvN [K.iv 3, K.iv th, K.iv i, .int .u64 y_9, .int .u64 wo, .bool true] (by kernel_rfl) (by kernel_rfl) (K.cells (K.cl ((hS.blk 2 rfl hg_30).cell rfl) (K.cl ((hS.blk 2 rfl hg_30).cell rfl) (K.cl ((hS.blk 2 rfl hg_30).cell rfl) (K.cl ((hS.blk 2 rfl hg_30).cell rfl) (K.cl ((hS.blk 2 rfl hg_30).cell rfl) (K.cl ((hS.blk 2 rfl hg_30).cell rfl) K.cl0)))))))⟩, trivial⟩, [[g_27, rp, ld_32].flatten], ?_, hS.pick [0, 3]⟩
    exact ⟨_, by rw [e]; rfl, rfl, by rw [e]; rw [putD (by omega)]; exact ⟨_, _, _, _, _, _, rfl, hg_28, hrp, xd_31, hrnp, hrn18⟩⟩
   ·
    refine K.x ((i : Int) ≥ (0 : Int)) h_19 ?_
    refine K.q [.bool false] (K.z (K.t (K.f (K.k (K.t (K.s (K.g (K.q [.pointer (some ⟨r_4, 5, none⟩)] ?_))))))))
    refine K.d (.bool true) ((hS.blk 1 rfl hg_18).cell rfl) ?_
    refine K.q [.bool true, K.iv i] ?_
    refine K.y ((i : Int) < (0 : Int)) (by omega) ?_
    refine K.q [.bool true] (K.z (K.t (K.h ?_)))
    have hv := peek_some h_10
    obtain ⟨rg, rp, rd, ra, rnp, rcp, rfl, hrg, hrp, hrd, hrnp, hrn18⟩ := x
    replace hS : K.Sat w0 [rg, rp, rd, g_17, g_2, fr] w := hS.of
    refine K.g (K.q [K.pa p, K.pa p, .pointer (some ⟨p, 1, none⟩)] ?_)
    refine K.d (.slice ra rnp rcp) ((hS.blk 0 rfl hrg).cell rfl) ?_
    refine K.q [K.iv i] ?_
    refine K.a (K.QR.n64 (((-1) : Int) - (i : Int)) (((-1) : Int) - (i : Int)) (by kernel_rfl) (by omega)) ?_
    refine K.q [.int .u64 wo] ?_
    obtain ⟨b_33, rfl⟩ := hrp.some_ (by have := hrp.le; omega)
    refine K.a (K.QR.ix ((((-1) : Int) - (i : Int)).toNat) 1 rfl rfl rfl Tryz.underlying78 (by kernel_rfl) (by omega) (by first | (simp; done) | omega | (simp; omega))) ?_
    refine K.l (K.OW.grst 1 ((((-1) : Int) - (i : Int)).toNat) [.int .u64 wo] (((M.pass.set ((((-1) : Int) - (i : Int)).toNat) wo)).flatMap cU64) hS hrp ?_ (by show _ + 1 ≤ _; omega) (K.set1 (c := cU64) M.pass ((((-1) : Int) - (i : Int)).toNat) wo (by have := hrnp; omega)))
    clear hS; intro w l_35 o_36 hS
    have ln_37 : ((M.pass.set ((((-1) : Int) - (i : Int)).toNat) wo)).length = _ := (List.length_set).trans hrnp
    replace hS : K.Sat w0 [rg, l_35, rd, g_17, g_2, fr] w := hS
    refine K.z (K.t (K.s (K.s (K.g (K.q [K.iv 3, .bool false] (K.z (K.t (K.f (K.k (K.t (K.s (K.s (K.g (K.q [K.iv 3, .bool false] ?_))))))))))))))
    refine K.z (K.t (K.f (K.k (K.t (K.s (K.g (K.q [K.pa p, K.pa p, K.pa p, .pointer (some ⟨p, 2, none⟩)] ?_)))))))
    refine K.d (K.iv M.clock) ((hS.blk 0 rfl hrg).cell rfl) ?_
    refine K.q [K.iv (IntKind.i64.wrap ((M.clock : Int) + (1 : Int))), K.pa p, .pointer (some ⟨p, 2, none⟩)] ?_
    refine K.l (K.OW.gst 0 [K.iv (IntKind.i64.wrap ((M.clock : Int) + (1 : Int)))] _ hS hrg ?_)
    clear hS; intro w g_38 hg_39 hS
    replace hS : K.Sat w0 [g_38, l_35, rd, g_17, g_2, fr] w := hS
    refine K.z (K.t (K.s (K.s (K.g (K.q [.bool true, .bool false] (K.z (K.t (K.f (K.k (K.t (K.s (K.g (K.q [K.pa p] ?_)))))))))))))
    refine K.a (K.QR.ldN [K.iv 3, K.iv th, K.iv i, .int .u64 y_9, .int .u64 wo, .bool true] rfl rfl (by kernel_rfl) (by kernel_rfl) (K.cells (K.cl ((hS.blk 3 rfl hg_18).cell rfl) (K.cl ((hS.blk 3 rfl hg_18).cell rfl) (K.cl ((hS.blk 3 rfl hg_18).cell rfl) (K.cl ((hS.blk 3 rfl hg_18).cell rfl) (K.cl ((hS.blk 3 rfl hg_18).cell rfl) (K.cl ((hS.blk 3 rfl hg_18).cell rfl) K.cl0)))))))) ?_
    refine K.q [K.pa p, .pointer (some ⟨p, 4, none⟩)] ?_
    refine K.l (K.OW.gst 0 [K.iv 3, K.iv th, K.iv i, .int .u64 y_9, .int .u64 wo, .bool true] _ hS hg_39 ?_)
    clear hS; intro w g_40 hg_41 hS
    replace hS : K.Sat w0 [g_40, l_35, rd, g_17, g_2, fr] w := hS
    refine K.z (K.t (K.s (K.g ?_)))
    refine K.a (K.QR.ldN [K.iv 3, K.iv th, K.iv i, .int .u64 y_9, .int .u64 wo, .bool true] rfl rfl (by kernel_rfl) (by kernel_rfl) (K.cells (K.cl ((hS.blk 3 rfl hg_18).cell rfl) (K.cl ((hS.blk 3 rfl hg_18).cell rfl) (K.cl ((hS.blk 3 rfl hg_18).cell rfl) (K.cl ((hS.blk 3 rfl hg_18).cell rfl) (K.cl ((hS.blk 3 rfl hg_18).cell rfl) (K.cl ((hS.blk 3 rfl hg_18).cell rfl) K.cl0)))))))) ?_
    refine K.l (K.OW.gst 4 [K.iv 3, K.iv th, K.iv i, .int .u64 y_9, .int .u64 wo, .bool true] _ hS hg_3 ?_)
    clear hS; intro w g_42 hg_43 hS
    replace hS : K.Sat w0 [g_40, l_35, rd, g_17, g_42, fr] w := hS
    refine K.z (K.t (K.r ?_))
    have hb : ((y_9 : Int) == old) = true := by simp; omega
    replace hS : K.Sat w0 [[g_40, l_35, rd].flatten, g_17, g_42, fr] w := (hS.pick [0, 1, 2, 3, 4, 5]).of
    have e : M.accW n th i old wo = ((M.put i wo).count (⟨3, th, i, y_9, wo, true⟩ : AccM) true, (⟨3, th, i, y_9, wo, true⟩ : AccM)) := by simp [MemM.accW, h_10, hb]
    refine ⟨.inr rfl, rfl, (.agg #[K.iv 3, K.iv th, K.iv i, .int .u64 y_9, .int .u64 wo, .bool true]), K.resAt (rs := [.cell 12 132]) [.agg #[K.iv 3, K.iv th, K.iv i, .int .u64 y_9, .int .u64 wo, .bool true]] rfl ⟨⟨_, rfl, K.lvN [K.iv 3, K.iv th, K.iv i, .int .u64 y_9, .int .u64 wo, .bool true] (by kernel_rfl) (by kernel_rfl) (K.cells (K.cl ((hS.blk 2 rfl hg_43).cell rfl) (K.cl ((hS.blk 2 rfl hg_43).cell rfl) (K.cl ((hS.blk 2 rfl hg_43).cell rfl) (K.cl ((hS.blk 2 rfl hg_43).cell rfl) (K.cl ((hS.blk 2 rfl hg_43).cell rfl) (K.cl ((hS.blk 2 rfl hg_43).cell rfl) K.cl0)))))))⟩, trivial⟩, [[g_40, l_35, rd].flatten], ?_, hS.pick [0, 3]⟩
    exact ⟨_, by rw [e]; rfl, rfl, by rw [e]; rw [putP (by omega)]; exact ⟨_, _, _, _, _, _, rfl, hg_41, o_36, hrd, ln_37, hrn18⟩⟩
  ·
   refine K.xe (y_9 : Int) (old : Int) h_14 ?_
   refine K.q [.bool false, .bool false, .pointer (some ⟨r_4, 5, none⟩)] ?_
   refine K.l (K.OW.gst 1 [.bool false] _ hS hg_13 ?_)
   clear hS; intro w g_44 hg_45 hS
   replace hS : K.Sat w0 [l, g_44, g_2, fr] w := hS
   refine K.z (K.t (K.s (K.s (K.g (K.q [K.iv 3, .bool false, .bool false, K.iv 3, .bool true, .bool true] (K.z (K.t (K.h (K.s (K.g (K.q [.int .u64 wo, .pointer (some ⟨r_4, 4, none⟩)] ?_)))))))))))
   refine K.l (K.OW.gst 1 [.int .u64 wo] _ hS hg_45 ?_)
   clear hS; intro w g_46 hg_47 hS
   replace hS : K.Sat w0 [l, g_46, g_2, fr] w := hS
   refine K.z (K.t (K.s (K.s (K.g (K.q [.pointer (some ⟨r_4, 5, none⟩)] ?_)))))
   refine K.d (.bool false) ((hS.blk 1 rfl hg_47).cell rfl) ?_
   refine K.q [.bool false] (K.n_ (K.n_ (K.q [.bool false] (K.z (K.t (K.f (K.k (K.t (K.s (K.g (K.q [.pointer (some ⟨r_4, 5, none⟩)] ?_)))))))))))
   refine K.d (.bool false) ((hS.blk 1 rfl hg_47).cell rfl) ?_
   refine K.q [.bool false] (K.n_ (K.n_ (K.q [.bool false] (K.z (K.t (K.f (K.k (K.t (K.s (K.s (K.g (K.q [K.iv 3, .bool false] (K.z (K.t ?_))))))))))))))
   refine K.f (K.k (K.t (K.s (K.s (K.g (K.q [K.iv 3, .bool false] (K.z (K.t (K.f (K.k (K.t (K.s ?_))))))))))))
   obtain ⟨rg, rp, rd, ra, rnp, rcp, rfl, hrg, hrp, hrd, hrnp, hrn18⟩ := x
   replace hS : K.Sat w0 [rg, rp, rd, g_46, g_2, fr] w := hS.of
   refine K.g (K.q [K.pa p, K.pa p, K.pa p, .pointer (some ⟨p, 2, none⟩)] ?_)
   refine K.d (K.iv M.clock) ((hS.blk 0 rfl hrg).cell rfl) ?_
   refine K.q [K.iv (IntKind.i64.wrap ((M.clock : Int) + (1 : Int))), K.pa p, .pointer (some ⟨p, 2, none⟩)] ?_
   refine K.l (K.OW.gst 0 [K.iv (IntKind.i64.wrap ((M.clock : Int) + (1 : Int)))] _ hS hrg ?_)
   clear hS; intro w g_48 hg_49 hS
   replace hS : K.Sat w0 [g_48, rp, rd, g_46, g_2, fr] w := hS
   refine K.z (K.t (K.s (K.s (K.g (K.q [.bool true, .bool false] (K.z (K.t (K.f (K.k (K.t (K.s (K.g (K.q [K.pa p] ?_)))))))))))))
   refine K.a (K.QR.ldN [K.iv 3, K.iv th, K.iv i, .int .u64 y_9, .int .u64 wo, .bool false] rfl rfl (by kernel_rfl) (by kernel_rfl) (K.cells (K.cl ((hS.blk 3 rfl hg_47).cell rfl) (K.cl ((hS.blk 3 rfl hg_47).cell rfl) (K.cl ((hS.blk 3 rfl hg_47).cell rfl) (K.cl ((hS.blk 3 rfl hg_47).cell rfl) (K.cl ((hS.blk 3 rfl hg_47).cell rfl) (K.cl ((hS.blk 3 rfl hg_47).cell rfl) K.cl0)))))))) ?_
   refine K.q [K.pa p, .pointer (some ⟨p, 4, none⟩)] ?_
   refine K.l (K.OW.gst 0 [K.iv 3, K.iv th, K.iv i, .int .u64 y_9, .int .u64 wo, .bool false] _ hS hg_49 ?_)
   clear hS; intro w g_50 hg_51 hS
   replace hS : K.Sat w0 [g_50, rp, rd, g_46, g_2, fr] w := hS
   refine K.z (K.t (K.s (K.g ?_)))
   refine K.a (K.QR.ldN [K.iv 3, K.iv th, K.iv i, .int .u64 y_9, .int .u64 wo, .bool false] rfl rfl (by kernel_rfl) (by kernel_rfl) (K.cells (K.cl ((hS.blk 3 rfl hg_47).cell rfl) (K.cl ((hS.blk 3 rfl hg_47).cell rfl) (K.cl ((hS.blk 3 rfl hg_47).cell rfl) (K.cl ((hS.blk 3 rfl hg_47).cell rfl) (K.cl ((hS.blk 3 rfl hg_47).cell rfl) (K.cl ((hS.blk 3 rfl hg_47).cell rfl) K.cl0)))))))) ?_
   refine K.l (K.OW.gst 4 [K.iv 3, K.iv th, K.iv i, .int .u64 y_9, .int .u64 wo, .bool false] _ hS hg_3 ?_)
   clear hS; intro w g_52 hg_53 hS
   replace hS : K.Sat w0 [g_50, rp, rd, g_46, g_52, fr] w := hS
   refine K.z (K.t (K.r ?_))
   have hb : ((y_9 : Int) == old) = false := by simp; omega
   replace hS : K.Sat w0 [[g_50, rp, rd].flatten, g_46, g_52, fr] w := (hS.pick [0, 1, 2, 3, 4, 5]).of
   have e : M.accW n th i old wo = (M.count (⟨3, th, i, y_9, wo, false⟩ : AccM) true, (⟨3, th, i, y_9, wo, false⟩ : AccM)) := by simp [MemM.accW, h_10, hb]
   refine ⟨.inr rfl, rfl, (.agg #[K.iv 3, K.iv th, K.iv i, .int .u64 y_9, .int .u64 wo, .bool false]), K.resAt (rs := [.cell 12 132]) [.agg #[K.iv 3, K.iv th, K.iv i, .int .u64 y_9, .int .u64 wo, .bool false]] rfl ⟨⟨_, rfl, K.lvN [K.iv 3, K.iv th, K.iv i, .int .u64 y_9, .int .u64 wo, .bool false] (by kernel_rfl) (by kernel_rfl) (K.cells (K.cl ((hS.blk 2 rfl hg_53).cell rfl) (K.cl ((hS.blk 2 rfl hg_53).cell rfl) (K.cl ((hS.blk 2 rfl hg_53).cell rfl) (K.cl ((hS.blk 2 rfl hg_53).cell rfl) (K.cl ((hS.blk 2 rfl hg_53).cell rfl) (K.cl ((hS.blk 2 rfl hg_53).cell rfl) K.cl0)))))))⟩, trivial⟩, [[g_50, rp, rd].flatten], ?_, hS.pick [0, 3]⟩
   exact ⟨_, by rw [e]; rfl, rfl, by rw [e]; exact ⟨_, _, _, _, _, _, rfl, hg_51, hrp, hrd, hrnp, hrn18⟩⟩
 ·
  replace hS : K.Sat w0 [l, g_7, g_2, fr] w := hS
  refine K.q [.tuple #[.int .u64 0, .bool false], .int .u64 0, .bool false, .int .u64 0, .bool false] (K.z (K.t (K.s (K.s (K.g (K.q [K.iv 3, .bool false, .bool false, K.iv 3, .bool false, .bool false, .bool false, K.iv 3, .bool true, .bool true] (K.z (K.t (K.h (K.s (K.g (K.q [.int .u64 0, .pointer (some ⟨r_4, 3, none⟩)] ?_))))))))))))
  refine K.l (K.OW.gst 1 [.int .u64 0] _ hS hg_8 ?_)
  clear hS; intro w g_54 hg_55 hS
  replace hS : K.Sat w0 [l, g_54, g_2, fr] w := hS
  refine K.z (K.t (K.g (K.q [.bool false, .bool false] (K.n_ (K.n_ (K.n_ (K.n_ (K.n_ (K.n_ (K.n_ (K.q [.bool false, .pointer (some ⟨r_4, 5, none⟩)] ?_)))))))))))
  refine K.l (K.OW.gst 1 [.bool false] _ hS hg_55 ?_)
  clear hS; intro w g_56 hg_57 hS
  replace hS : K.Sat w0 [l, g_56, g_2, fr] w := hS
  refine K.z (K.t (K.s (K.s (K.g (K.q [K.iv 3, .bool false, .bool false, K.iv 3, .bool true, .bool true] (K.z (K.t (K.h (K.s (K.g (K.q [.int .u64 wo, .pointer (some ⟨r_4, 4, none⟩)] ?_)))))))))))
  refine K.l (K.OW.gst 1 [.int .u64 wo] _ hS hg_57 ?_)
  clear hS; intro w g_58 hg_59 hS
  replace hS : K.Sat w0 [l, g_58, g_2, fr] w := hS
  refine K.z (K.t (K.s (K.s (K.g (K.q [.pointer (some ⟨r_4, 5, none⟩)] ?_)))))
  refine K.d (.bool false) ((hS.blk 1 rfl hg_59).cell rfl) ?_
  refine K.q [.bool false] (K.n_ (K.n_ (K.q [.bool false] (K.z (K.t (K.f (K.k (K.t (K.s (K.g (K.q [.pointer (some ⟨r_4, 5, none⟩)] ?_)))))))))))
  refine K.d (.bool false) ((hS.blk 1 rfl hg_59).cell rfl) ?_
  refine K.q [.bool false] (K.n_ (K.n_ (K.q [.bool false] (K.z (K.t (K.f (K.k (K.t (K.s (K.s (K.g (K.q [K.iv 3, .bool false] (K.z (K.t ?_))))))))))))))
  refine K.f (K.k (K.t (K.s (K.s (K.g (K.q [K.iv 3, .bool false] (K.z (K.t (K.f (K.k (K.t (K.s ?_))))))))))))
  obtain ⟨rg, rp, rd, ra, rnp, rcp, rfl, hrg, hrp, hrd, hrnp, hrn18⟩ := x
  replace hS : K.Sat w0 [rg, rp, rd, g_58, g_2, fr] w := hS.of
  refine K.g (K.q [K.pa p, K.pa p, K.pa p, .pointer (some ⟨p, 2, none⟩)] ?_)
  refine K.d (K.iv M.clock) ((hS.blk 0 rfl hrg).cell rfl) ?_
  refine K.q [K.iv (IntKind.i64.wrap ((M.clock : Int) + (1 : Int))), K.pa p, .pointer (some ⟨p, 2, none⟩)] ?_
  refine K.l (K.OW.gst 0 [K.iv (IntKind.i64.wrap ((M.clock : Int) + (1 : Int)))] _ hS hrg ?_)
  clear hS; intro w g_60 hg_61 hS
  replace hS : K.Sat w0 [g_60, rp, rd, g_58, g_2, fr] w := hS
  refine K.z (K.t (K.s (K.s (K.g (K.q [.bool false, .bool true] (K.z (K.t (K.h (K.g (K.q [K.pa p, K.pa p, K.pa p, .pointer (some ⟨p, 3, none⟩)] ?_))))))))))
  refine K.d (K.iv M.bad) ((hS.blk 0 rfl hg_61).cell rfl) ?_
  refine K.q [K.iv (IntKind.i64.wrap ((M.bad : Int) + (1 : Int))), K.pa p, .pointer (some ⟨p, 3, none⟩)] ?_
  refine K.l (K.OW.gst 0 [K.iv (IntKind.i64.wrap ((M.bad : Int) + (1 : Int)))] _ hS hg_61 ?_)
  clear hS; intro w g_62 hg_63 hS
  replace hS : K.Sat w0 [g_62, rp, rd, g_58, g_2, fr] w := hS
  refine K.z (K.t (K.s (K.g (K.q [K.pa p] ?_))))
  refine K.a (K.QR.ldN [K.iv 3, K.iv th, K.iv i, .int .u64 0, .int .u64 wo, .bool false] rfl rfl (by kernel_rfl) (by kernel_rfl) (K.cells (K.cl ((hS.blk 3 rfl hg_59).cell rfl) (K.cl ((hS.blk 3 rfl hg_59).cell rfl) (K.cl ((hS.blk 3 rfl hg_59).cell rfl) (K.cl ((hS.blk 3 rfl hg_59).cell rfl) (K.cl ((hS.blk 3 rfl hg_59).cell rfl) (K.cl ((hS.blk 3 rfl hg_59).cell rfl) K.cl0)))))))) ?_
  refine K.q [K.pa p, .pointer (some ⟨p, 4, none⟩)] ?_
  refine K.l (K.OW.gst 0 [K.iv 3, K.iv th, K.iv i, .int .u64 0, .int .u64 wo, .bool false] _ hS hg_63 ?_)
  clear hS; intro w g_64 hg_65 hS
  replace hS : K.Sat w0 [g_64, rp, rd, g_58, g_2, fr] w := hS
  refine K.z (K.t (K.s (K.g ?_)))
  refine K.a (K.QR.ldN [K.iv 3, K.iv th, K.iv i, .int .u64 0, .int .u64 wo, .bool false] rfl rfl (by kernel_rfl) (by kernel_rfl) (K.cells (K.cl ((hS.blk 3 rfl hg_59).cell rfl) (K.cl ((hS.blk 3 rfl hg_59).cell rfl) (K.cl ((hS.blk 3 rfl hg_59).cell rfl) (K.cl ((hS.blk 3 rfl hg_59).cell rfl) (K.cl ((hS.blk 3 rfl hg_59).cell rfl) (K.cl ((hS.blk 3 rfl hg_59).cell rfl) K.cl0)))))))) ?_
  refine K.l (K.OW.gst 4 [K.iv 3, K.iv th, K.iv i, .int .u64 0, .int .u64 wo, .bool false] _ hS hg_3 ?_)
  clear hS; intro w g_66 hg_67 hS
  replace hS : K.Sat w0 [g_64, rp, rd, g_58, g_66, fr] w := hS
  refine K.z (K.t (K.r ?_))
  replace hS : K.Sat w0 [[g_64, rp, rd].flatten, g_58, g_66, fr] w := (hS.pick [0, 1, 2, 3, 4, 5]).of
  have e : M.accW n th i old wo = (M.count (⟨3, th, i, 0, wo, false⟩ : AccM) false, (⟨3, th, i, 0, wo, false⟩ : AccM)) := by simp [MemM.accW, h_11]
  refine ⟨.inr rfl, rfl, (.agg #[K.iv 3, K.iv th, K.iv i, .int .u64 0, .int .u64 wo, .bool false]), K.resAt (rs := [.cell 12 132]) [.agg #[K.iv 3, K.iv th, K.iv i, .int .u64 0, .int .u64 wo, .bool false]] rfl ⟨⟨_, rfl, K.lvN [K.iv 3, K.iv th, K.iv i, .int .u64 0, .int .u64 wo, .bool false] (by kernel_rfl) (by kernel_rfl) (K.cells (K.cl ((hS.blk 2 rfl hg_67).cell rfl) (K.cl ((hS.blk 2 rfl hg_67).cell rfl) (K.cl ((hS.blk 2 rfl hg_67).cell rfl) (K.cl ((hS.blk 2 rfl hg_67).cell rfl) (K.cl ((hS.blk 2 rfl hg_67).cell rfl) (K.cl ((hS.blk 2 rfl hg_67).cell rfl) K.cl0)))))))⟩, trivial⟩, [[g_64, rp, rd].flatten], ?_, hS.pick [0, 3]⟩
  exact ⟨_, by rw [e]; rfl, rfl, by rw [e]; exact ⟨_, _, _, _, _, _, rfl, hg_65, hrp, hrd, hrnp, hrn18⟩⟩
set_option maxHeartbeats 1000000 in
set_option maxRecDepth 100000 in
theorem rmDo4_ok (w0 : World) (p q n t : Nat) (M : MemM) (l : K.Cs) (x : RMemAt l p q n t M) (th i old wo : Int) (hth : isInt th) (hi : isInt i) :
  K.GC Tryz.prog w0 67 #[K.pa p, K.iv 4, K.iv th, K.iv i, .int .u64 old, .int .u64 wo] [l] (fun v post => ∃ l', v = .agg (cAcc (M.accF n t th i).2).toArray ∧ post = [l'] ∧ RMemAt l' p q n t (M.accF n t th i).1) := by
 refine K.GC.mk (n := 139) Tryz.func67 rfl rfl [K.pa p, K.iv 4, K.iv th, K.iv i, .int .u64 old, .int .u64 wo] rfl rfl ?_
 intro fr w hS
 replace hS : K.Sat w0 [l, fr] w := hS
 refine K.s (K.g ?_)
 refine K.l (K.OW.gnew 132 [K.iv 0, K.iv 0, K.iv 0, .int .u64 0, .int .u64 0, .bool false] hS ?_)
 clear hS; intro w r_1 g_2 hg_3 hS
 refine K.z (K.t (K.s (K.g (K.q [K.iv 4, K.iv th, K.iv i] ?_))))
 refine K.a (K.QR.bd [(0, K.iv 4), (1, K.iv th), (2, K.iv i)] [K.iv 4, K.iv th, K.iv i, .int .u64 0, .int .u64 0, .bool false] rfl rfl (by kernel_rfl)) ?_
 refine K.l (K.OW.gnew 132 [K.iv 0, K.iv 0, K.iv 0, .int .u64 0, .int .u64 0, .bool false] hS ?_)
 clear hS; intro w r_4 g_5 hg_6 hS
 refine K.l (K.OW.gst 0 [K.iv 4, K.iv th, K.iv i, .int .u64 0, .int .u64 0, .bool false] _ hS hg_6 ?_)
 clear hS; intro w g_7 hg_8 hS
 replace hS : K.Sat w0 [g_7, g_2, l, fr] w := hS
 refine K.z (K.t (K.s (K.g (K.q [K.pa p, K.iv i] ?_))))
 refine K.l (K.OW.gcall hS [2] [0, 1, 3] [K.pa p, K.iv i] (rmPeek_ok _ _ _ _ _ _ _ x i (by omega)) ?_)
 clear hS; rintro _ _ w ⟨rfl, (⟨y_9, rfl, h_10⟩ | ⟨rfl, h_11⟩)⟩ hS
 ·
  replace hS : K.Sat w0 [l, g_7, g_2, fr] w := hS
  refine K.q [.tuple #[.int .u64 y_9, .bool true], .int .u64 y_9, .bool true, .int .u64 y_9, .bool true] (K.z (K.t (K.s (K.s (K.g (K.q [K.iv 4, .bool false, .bool false, K.iv 4, .bool false, .bool false, .bool false, K.iv 4, .bool false, .bool false] (K.z (K.t (K.f (K.k (K.t (K.s (K.s (K.g ?_))))))))))))))
  refine K.q [K.iv 4, .bool false, .bool false, K.iv 4, .bool false, .bool false] (K.z (K.t (K.f (K.k (K.t (K.s (K.s (K.g (K.q [K.iv 4, .bool true] (K.z (K.t (K.h (K.s ?_)))))))))))))
  obtain ⟨rg, rp, rd, ra, rnp, rcp, rfl, hrg, hrp, hrd, hrnp, hrn18⟩ := x
  replace hS : K.Sat w0 [rg, rp, rd, g_7, g_2, fr] w := hS.of
  refine K.g (K.q [K.iv i] ?_)
  by_cases h_12 : (i : Int) ≥ (0 : Int)
  ·
   refine K.y ((i : Int) ≥ (0 : Int)) h_12 ?_
   refine K.q [.bool true, K.pa p, K.pa p, K.pa p] ?_
   refine K.d (K.pa q) ((hS.blk 0 rfl hrg).cell rfl) ?_
   refine K.q [K.iv th, K.iv i] ?_
   refine K.a (K.QR.quoi64 (i : Int) 8 ((i : Int) / 8) (by kernel_rfl) (by omega) (by omega)) ?_
   refine K.l (K.OW.gcall hS [2] [0, 1, 3, 4, 5] [K.pa q, K.iv 0, K.iv th, K.iv ((i : Int) / 8)] (rdDo0_ok _ _ _ _ _ _ hrd th ((i : Int) / 8) (by omega) (by omega)) ?_)
   clear hS; rintro _ _ w (⟨rfl, h_13, l_14, rfl, x_15⟩ | ⟨rfl, h_16, rfl⟩ | ⟨rfl, h_17, rfl⟩) hS
   ·
    replace hS : K.Sat w0 [l_14, rg, rp, g_7, g_2, fr] w := hS
    refine K.q [.bool true, .bool true, .bool true] (K.z (K.t (K.g (K.q [.bool true, .pointer (some ⟨r_4, 5, none⟩)] ?_))))
    refine K.l (K.OW.gst 3 [.bool true] _ hS hg_8 ?_)
    clear hS; intro w g_18 hg_19 hS
    replace hS : K.Sat w0 [l_14, rg, rp, g_18, g_2, fr] w := hS
    refine K.z (K.t (K.s (K.s (K.g (K.q [K.iv 4, .bool false] (K.z (K.t (K.f (K.k (K.t (K.s (K.g (K.q [K.pa p, K.pa p, K.pa p, .pointer (some ⟨p, 2, none⟩)] ?_)))))))))))))
    refine K.d (K.iv M.clock) ((hS.blk 1 rfl hrg).cell rfl) ?_
    refine K.q [K.iv (IntKind.i64.wrap ((M.clock : Int) + (1 : Int))), K.pa p, .pointer (some ⟨p, 2, none⟩)] ?_
    refine K.l (K.OW.gst 1 [K.iv (IntKind.i64.wrap ((M.clock : Int) + (1 : Int)))] _ hS hrg ?_)
    clear hS; intro w g_20 hg_21 hS
    replace hS : K.Sat w0 [l_14, g_20, rp, g_18, g_2, fr] w := hS
    refine K.z (K.t (K.s (K.s (K.g (K.q [.bool true, .bool false] (K.z (K.t (K.f (K.k (K.t (K.s (K.g (K.q [K.pa p] ?_)))))))))))))
    refine K.a (K.QR.ldN [K.iv 4, K.iv th, K.iv i, .int .u64 0, .int .u64 0, .bool true] rfl rfl (by kernel_rfl) (by kernel_rfl) (K.cells (K.cl ((hS.blk 3 rfl hg_19).cell rfl) (K.cl ((hS.blk 3 rfl hg_19).cell rfl) (K.cl ((hS.blk 3 rfl hg_19).cell rfl) (K.cl ((hS.blk 3 rfl hg_19).cell rfl) (K.cl ((hS.blk 3 rfl hg_19).cell rfl) (K.cl ((hS.blk 3 rfl hg_19).cell rfl) K.cl0)))))))) ?_
    refine K.q [K.pa p, .pointer (some ⟨p, 4, none⟩)] ?_
    refine K.l (K.OW.gst 1 [K.iv 4, K.iv th, K.iv i, .int .u64 0, .int .u64 0, .bool true] _ hS hg_21 ?_)
    clear hS; intro w g_22 hg_23 hS
    replace hS : K.Sat w0 [l_14, g_22, rp, g_18, g_2, fr] w := hS
    refine K.z (K.t (K.s (K.g ?_)))
    refine K.a (K.QR.ldN [K.iv 4, K.iv th, K.iv i, .int .u64 0, .int .u64 0, .bool true] rfl rfl (by kernel_rfl) (by kernel_rfl) (K.cells (K.cl ((hS.blk 3 rfl hg_19).cell rfl) (K.cl ((hS.blk 3 rfl hg_19).cell rfl) (K.cl ((hS.blk 3 rfl hg_19).cell rfl) (K.cl ((hS.blk 3 rfl hg_19).cell rfl) (K.cl ((hS.blk 3 rfl hg_19).cell rfl) (K.cl ((hS.blk 3 rfl hg_19).cell rfl) K.cl0)))))))) ?_
    refine K.l (K.OW.gst 4 [K.iv 4, K.iv th, K.iv i, .int .u64 0, .int .u64 0, .bool true] _ hS hg_3 ?_)
    clear hS; intro w g_24 hg_25 hS
    replace hS : K.Sat w0 [l_14, g_22, rp, g_18, g_24, fr] w := hS
    refine K.z (K.t (K.r ?_))
    have hd : decide ((0 : Int) ≤ i ∧ i < n * 8 ∧ 0 ≤ th ∧ th < t) = true := decide_eq_true (by omega)
    replace hS : K.Sat w0 [[g_22, rp, l_14].flatten, g_18, g_24, fr] w := (hS.pick [1, 2, 0, 3, 4, 5]).of
    have e : M.accF n t th i = (({ M with dev := (M.dev.mark th.toNat ((i : Int) / 8).toNat) } : MemM).count (⟨4, th, i, 0, 0, true⟩ : AccM) true, (⟨4, th, i, 0, 0, true⟩ : AccM)) := by simp only [MemM.accF, hd]; rfl
    refine ⟨.inr rfl, rfl, (.agg #[K.iv 4, K.iv th, K.iv i, .int .u64 0, .int .u64 0, .bool true]), K.resAt (rs := [.cell 12 132]) [.agg #[K.iv 4, K.iv th, K.iv i, .int .u64 0, .int .u64 0, .bool true]] rfl ⟨⟨_, rfl, K.lvN [K.iv 4, K.iv th, K.iv i, .int .u64 0, .int .u64 0, .bool true] (by kernel_rfl) (by kernel_rfl) (K.cells (K.cl ((hS.blk 2 rfl hg_25).cell rfl) (K.cl ((hS.blk 2 rfl hg_25).cell rfl) (K.cl ((hS.blk 2 rfl hg_25).cell rfl) (K.cl ((hS.blk 2 rfl hg_25).cell rfl) (K.cl ((hS.blk 2 rfl hg_25).cell rfl) (K.cl ((hS.blk 2 rfl hg_25).cell rfl) K.cl0)))))))⟩, trivial⟩, [[g_22, rp, l_14].flatten], ?_, hS.pick [0, 3]⟩
    exact ⟨_, by rw [e]; rfl, rfl, by rw [e]; exact ⟨_, _, _, _, _, _, rfl, hg_23, hrp, x_15, hrnp, hrn18⟩⟩
   ·
    replace hS : K.Sat w0 [rd, rg, rp, g_7, g_2, fr] w := hS
    refine K.q [.bool false, .bool false, .bool false] (K.z (K.t (K.g (K.q [.bool false, .pointer (some ⟨r_4, 5, none⟩)] ?_))))
    refine K.l (K.OW.gst 3 [.bool false] _ hS hg_8 ?_)
    clear hS; intro w g_26 hg_27 hS
    replace hS : K.Sat w0 [rd, rg, rp, g_26, g_2, fr] w := hS
    refine K.z (K.t (K.s (K.s (K.g (K.q [K.iv 4, .bool false] (K.z (K.t (K.f (K.k (K.t (K.s (K.g (K.q [K.pa p, K.pa p, K.pa p, .pointer (some ⟨p, 2, none⟩)] ?_)))))))))))))
    refine K.d (K.iv M.clock) ((hS.blk 1 rfl hrg).cell rfl) ?_
    refine K.q [K.iv (IntKind.i64.wrap ((M.clock : Int) + (1 : Int))), K.pa p, .pointer (some ⟨p, 2, none⟩)] ?_
    refine K.l (K.OW.gst 1 [K.iv (IntKind.i64.wrap ((M.clock : Int) + (1 : Int)))] _ hS hrg ?_)
    clear hS; intro w g_28 hg_29 hS
    replace hS : K.Sat w0 [rd, g_28, rp, g_26, g_2, fr] w := hS
    refine K.z (K.t (K.s (K.s (K.g (K.q [.bool false, .bool true] (K.z (K.t (K.h (K.g (K.q [K.pa p, K.pa p, K.pa p, .pointer (some ⟨p, 3, none⟩)] ?_))))))))))
    refine K.d (K.iv M.bad) ((hS.blk 1 rfl hg_29).cell rfl) ?_
    refine K.q [K.iv (IntKind.i64.wrap ((M.bad : Int) + (1 : Int))), K.pa p, .pointer (some ⟨p, 3, none⟩)] ?_
    refine K.l (K.OW.gst 1 [K.iv (IntKind.i64.wrap ((M.bad : Int) + (1 : Int)))] _ hS hg_29 ?_)
    clear hS; intro w g_30 hg_31 hS
    replace hS : K.Sat w0 [rd, g_30, rp, g_26, g_2, fr] w := hS
    refine K.z (K.t (K.s (K.g (K.q [K.pa p] ?_))))
    refine K.a (K.QR.ldN [K.iv 4, K.iv th, K.iv i, .int .u64 0, .int .u64 0, .bool false] rfl rfl (by kernel_rfl) (by kernel_rfl) (K.cells (K.cl ((hS.blk 3 rfl hg_27).cell rfl) (K.cl ((hS.blk 3 rfl hg_27).cell rfl) (K.cl ((hS.blk 3 rfl hg_27).cell rfl) (K.cl ((hS.blk 3 rfl hg_27).cell rfl) (K.cl ((hS.blk 3 rfl hg_27).cell rfl) (K.cl ((hS.blk 3 rfl hg_27).cell rfl) K.cl0)))))))) ?_
    refine K.q [K.pa p, .pointer (some ⟨p, 4, none⟩)] ?_
    refine K.l (K.OW.gst 1 [K.iv 4, K.iv th, K.iv i, .int .u64 0, .int .u64 0, .bool false] _ hS hg_31 ?_)
    clear hS; intro w g_32 hg_33 hS
    replace hS : K.Sat w0 [rd, g_32, rp, g_26, g_2, fr] w := hS
    refine K.z (K.t (K.s (K.g ?_)))
    refine K.a (K.QR.ldN [K.iv 4, K.iv th, K.iv i, .int .u64 0, .int .u64 0, .bool false] rfl rfl (by kernel_rfl) (by kernel_rfl) (K.cells (K.cl ((hS.blk 3 rfl hg_27).cell rfl) (K.cl ((hS.blk 3 rfl hg_27).cell rfl) (K.cl ((hS.blk 3 rfl hg_27).cell rfl) (K.cl ((hS.blk 3 rfl hg_27).cell rfl) (K.cl ((hS.blk 3 rfl hg_27).cell rfl) (K.cl ((hS.blk 3 rfl hg_27).cell rfl) K.cl0)))))))) ?_
    refine K.l (K.OW.gst 4 [K.iv 4, K.iv th, K.iv i, .int .u64 0, .int .u64 0, .bool false] _ hS hg_3 ?_)
    clear hS; intro w g_34 hg_35 hS
    replace hS : K.Sat w0 [rd, g_32, rp, g_26, g_34, fr] w := hS
    refine K.z (K.t (K.r ?_))
    have hd : decide ((0 : Int) ≤ i ∧ i < n * 8 ∧ 0 ≤ th ∧ th < t) = false := decide_eq_false (by omega)
    replace hS : K.Sat w0 [[g_32, rp, rd].flatten, g_26, g_34, fr] w := (hS.pick [1, 2, 0, 3, 4, 5]).of
    have e : M.accF n t th i = (M.count (⟨4, th, i, 0, 0, false⟩ : AccM) false, (⟨4, th, i, 0, 0, false⟩ : AccM)) := by simp only [MemM.accF, hd]; rfl
    refine ⟨.inr rfl, rfl, (.agg #[K.iv 4, K.iv th, K.iv i, .int .u64 0, .int .u64 0, .bool false]), K.resAt (rs := [.cell 12 132]) [.agg #[K.iv 4, K.iv th, K.iv i, .int .u64 0, .int .u64 0, .bool false]] rfl ⟨⟨_, rfl, K.lvN [K.iv 4, K.iv th, K.iv i, .int .u64 0, .int .u64 0, .bool false] (by kernel_rfl) (by kernel_rfl) (K.cells (K.cl ((hS.blk 2 rfl hg_35).cell rfl) (K.cl ((hS.blk 2 rfl hg_35).cell rfl) (K.cl ((hS.blk 2 rfl hg_35).cell rfl) (K.cl ((hS.blk 2 rfl hg_35).cell rfl) (K.cl ((hS.blk 2 rfl hg_35).cell rfl) (K.cl ((hS.blk 2 rfl hg_35).cell rfl) K.cl0)))))))⟩, trivial⟩, [[g_32, rp, rd].flatten], ?_, hS.pick [0, 3]⟩
    exact ⟨_, by rw [e]; rfl, rfl, by rw [e]; exact ⟨_, _, _, _, _, _, rfl, hg_33, hrp, hrd, hrnp, hrn18⟩⟩
   ·
    replace hS : K.Sat w0 [rd, rg, rp, g_7, g_2, fr] w := hS
    refine K.q [.bool false, .bool false, .bool false] (K.z (K.t (K.g (K.q [.bool false, .pointer (some ⟨r_4, 5, none⟩)] ?_))))
    refine K.l (K.OW.gst 3 [.bool false] _ hS hg_8 ?_)
    clear hS; intro w g_36 hg_37 hS
    replace hS : K.Sat w0 [rd, rg, rp, g_36, g_2, fr] w := hS
    refine K.z (K.t (K.s (K.s (K.g (K.q [K.iv 4, .bool false] (K.z (K.t (K.f (K.k (K.t (K.s (K.g (K.q [K.pa p, K.pa p, K.pa p, .pointer (some ⟨p, 2, none⟩)] ?_)))))))))))))
    refine K.d (K.iv M.clock) ((hS.blk 1 rfl hrg).cell rfl) ?_
    refine K.q [K.iv (IntKind.i64.wrap ((M.clock : Int) + (1 : Int))), K.pa p, .pointer (some ⟨p, 2, none⟩)] ?_
    refine K.l (K.OW.gst 1 [K.iv (IntKind.i64.wrap ((M.clock : Int) + (1 : Int)))] _ hS hrg ?_)
    clear hS; intro w g_38 hg_39 hS
    replace hS : K.Sat w0 [rd, g_38, rp, g_36, g_2, fr] w := hS
    refine K.z (K.t (K.s (K.s (K.g (K.q [.bool false, .bool true] (K.z (K.t (K.h (K.g (K.q [K.pa p, K.pa p, K.pa p, .pointer (some ⟨p, 3, none⟩)] ?_))))))))))
    refine K.d (K.iv M.bad) ((hS.blk 1 rfl hg_39).cell rfl) ?_
    refine K.q [K.iv (IntKind.i64.wrap ((M.bad : Int) + (1 : Int))), K.pa p, .pointer (some ⟨p, 3, none⟩)] ?_
    refine K.l (K.OW.gst 1 [K.iv (IntKind.i64.wrap ((M.bad : Int) + (1 : Int)))] _ hS hg_39 ?_)
    clear hS; intro w g_40 hg_41 hS
    replace hS : K.Sat w0 [rd, g_40, rp, g_36, g_2, fr] w := hS
    refine K.z (K.t (K.s (K.g (K.q [K.pa p] ?_))))
    refine K.a (K.QR.ldN [K.iv 4, K.iv th, K.iv i, .int .u64 0, .int .u64 0, .bool false] rfl rfl (by kernel_rfl) (by kernel_rfl) (K.cells (K.cl ((hS.blk 3 rfl hg_37).cell rfl) (K.cl ((hS.blk 3 rfl hg_37).cell rfl) (K.cl ((hS.blk 3 rfl hg_37).cell rfl) (K.cl ((hS.blk 3 rfl hg_37).cell rfl) (K.cl ((hS.blk 3 rfl hg_37).cell rfl) (K.cl ((hS.blk 3 rfl hg_37).cell rfl) K.cl0)))))))) ?_
    refine K.q [K.pa p, .pointer (some ⟨p, 4, none⟩)] ?_
    refine K.l (K.OW.gst 1 [K.iv 4, K.iv th, K.iv i, .int .u64 0, .int .u64 0, .bool false] _ hS hg_41 ?_)
    clear hS; intro w g_42 hg_43 hS
    replace hS : K.Sat w0 [rd, g_42, rp, g_36, g_2, fr] w := hS
    refine K.z (K.t (K.s (K.g ?_)))
    refine K.a (K.QR.ldN [K.iv 4, K.iv th, K.iv i, .int .u64 0, .int .u64 0, .bool false] rfl rfl (by kernel_rfl) (by kernel_rfl) (K.cells (K.cl ((hS.blk 3 rfl hg_37).cell rfl) (K.cl ((hS.blk 3 rfl hg_37).cell rfl) (K.cl ((hS.blk 3 rfl hg_37).cell rfl) (K.cl ((hS.blk 3 rfl hg_37).cell rfl) (K.cl ((hS.blk 3 rfl hg_37).cell rfl) (K.cl ((hS.blk 3 rfl hg_37).cell rfl) K.cl0)))))))) ?_
    refine K.l (K.OW.gst 4 [K.iv 4, K.iv th, K.iv i, .int .u64 0, .int .u64 0, .bool false] _ hS hg_3 ?_)
    clear hS; intro w g_44 hg_45 hS
    replace hS : K.Sat w0 [rd, g_42, rp, g_36, g_44, fr] w := hS
    refine K.z (K.t (K.r ?_))
    have hd : decide ((0 : Int) ≤ i ∧ i < n * 8 ∧ 0 ≤ th ∧ th < t) = false := decide_eq_false (by omega)
    replace hS : K.Sat w0 [[g_42, rp, rd].flatten, g_36, g_44, fr] w := (hS.pick [1, 2, 0, 3, 4, 5]).of
    have e : M.accF n t th i = (M.count (⟨4, th, i, 0, 0, false⟩ : AccM) false, (⟨4, th, i, 0, 0, false⟩ : AccM)) := by simp only [MemM.accF, hd]; rfl
    refine ⟨.inr rfl, rfl, (.agg #[K.iv 4, K.iv th, K.iv i, .int .u64 0, .int .u64 0, .bool false]), K.resAt (rs := [.cell 12 132]) [.agg #[K.iv 4, K.iv th, K.iv i, .int .u64 0, .int .u64 0, .bool false]] rfl ⟨⟨_, rfl, K.lvN [K.iv 4, K.iv th, K.iv i, .int .u64 0, .int .u64 0, .bool false] (by kernel_rfl) (by kernel_rfl) (K.cells (K.cl ((hS.blk 2 rfl hg_45).cell rfl) (K.cl ((hS.blk 2 rfl hg_45).cell rfl) (K.cl ((hS.blk 2 rfl hg_45).cell rfl) (K.cl ((hS.blk 2 rfl hg_45).cell rfl) (K.cl ((hS.blk 2 rfl hg_45).cell rfl) (K.cl ((hS.blk 2 rfl hg_45).cell rfl) K.cl0)))))))⟩, trivial⟩, [[g_42, rp, rd].flatten], ?_, hS.pick [0, 3]⟩
    exact ⟨_, by rw [e]; rfl, rfl, by rw [e]; exact ⟨_, _, _, _, _, _, rfl, hg_43, hrp, hrd, hrnp, hrn18⟩⟩
  ·
   refine K.x ((i : Int) ≥ (0 : Int)) h_12 ?_
   refine K.q [.bool false] (K.n_ (K.n_ (K.n_ (K.n_ (K.n_ (K.n_ (K.n_ (K.n_ (K.n_ (K.q [.bool false, .bool false] (K.z (K.t (K.g (K.q [.bool false, .pointer (some ⟨r_4, 5, none⟩)] ?_))))))))))))))
   refine K.l (K.OW.gst 3 [.bool false] _ hS hg_8 ?_)
   clear hS; intro w g_46 hg_47 hS
   replace hS : K.Sat w0 [rg, rp, rd, g_46, g_2, fr] w := hS
   refine K.z (K.t (K.s (K.s (K.g (K.q [K.iv 4, .bool false] (K.z (K.t (K.f (K.k (K.t (K.s (K.g (K.q [K.pa p, K.pa p, K.pa p, .pointer (some ⟨p, 2, none⟩)] ?_)))))))))))))
   refine K.d (K.iv M.clock) ((hS.blk 0 rfl hrg).cell rfl) ?_
   refine K.q [K.iv (IntKind.i64.wrap ((M.clock : Int) + (1 : Int))), K.pa p, .pointer (some ⟨p, 2, none⟩)] ?_
   refine K.l (K.OW.gst 0 [K.iv (IntKind.i64.wrap ((M.clock : Int) + (1 : Int)))] _ hS hrg ?_)
   clear hS; intro w g_48 hg_49 hS
   replace hS : K.Sat w0 [g_48, rp, rd, g_46, g_2, fr] w := hS
   refine K.z (K.t (K.s (K.s (K.g (K.q [.bool false, .bool true] (K.z (K.t (K.h (K.g (K.q [K.pa p, K.pa p, K.pa p, .pointer (some ⟨p, 3, none⟩)] ?_))))))))))
   refine K.d (K.iv M.bad) ((hS.blk 0 rfl hg_49).cell rfl) ?_
   refine K.q [K.iv (IntKind.i64.wrap ((M.bad : Int) + (1 : Int))), K.pa p, .pointer (some ⟨p, 3, none⟩)] ?_
   refine K.l (K.OW.gst 0 [K.iv (IntKind.i64.wrap ((M.bad : Int) + (1 : Int)))] _ hS hg_49 ?_)
   clear hS; intro w g_50 hg_51 hS
   replace hS : K.Sat w0 [g_50, rp, rd, g_46, g_2, fr] w := hS
   refine K.z (K.t (K.s (K.g (K.q [K.pa p] ?_))))
   refine K.a (K.QR.ldN [K.iv 4, K.iv th, K.iv i, .int .u64 0, .int .u64 0, .bool false] rfl rfl (by kernel_rfl) (by kernel_rfl) (K.cells (K.cl ((hS.blk 3 rfl hg_47).cell rfl) (K.cl ((hS.blk 3 rfl hg_47).cell rfl) (K.cl ((hS.blk 3 rfl hg_47).cell rfl) (K.cl ((hS.blk 3 rfl hg_47).cell rfl) (K.cl ((hS.blk 3 rfl hg_47).cell rfl) (K.cl ((hS.blk 3 rfl hg_47).cell rfl) K.cl0)))))))) ?_
   refine K.q [K.pa p, .pointer (some ⟨p, 4, none⟩)] ?_
   refine K.l (K.OW.gst 0 [K.iv 4, K.iv th, K.iv i, .int .u64 0, .int .u64 0, .bool false] _ hS hg_51 ?_)
   clear hS; intro w g_52 hg_53 hS
   replace hS : K.Sat w0 [g_52, rp, rd, g_46, g_2, fr] w := hS
   refine K.z (K.t (K.s (K.g ?_)))
   refine K.a (K.QR.ldN [K.iv 4, K.iv th, K.iv i, .int .u64 0, .int .u64 0, .bool false] rfl rfl (by kernel_rfl) (by kernel_rfl) (K.cells (K.cl ((hS.blk 3 rfl hg_47).cell rfl) (K.cl ((hS.blk 3 rfl hg_47).cell rfl) (K.cl ((hS.blk 3 rfl hg_47).cell rfl) (K.cl ((hS.blk 3 rfl hg_47).cell rfl) (K.cl ((hS.blk 3 rfl hg_47).cell rfl) (K.cl ((hS.blk 3 rfl hg_47).cell rfl) K.cl0)))))))) ?_
   refine K.l (K.OW.gst 4 [K.iv 4, K.iv th, K.iv i, .int .u64 0, .int .u64 0, .bool false] _ hS hg_3 ?_)
   clear hS; intro w g_54 hg_55 hS
   replace hS : K.Sat w0 [g_52, rp, rd, g_46, g_54, fr] w := hS
   refine K.z (K.t (K.r ?_))
   have hd : decide ((0 : Int) ≤ i ∧ i < n * 8 ∧ 0 ≤ th ∧ th < t) = false := decide_eq_false (by omega)
   replace hS : K.Sat w0 [[g_52, rp, rd].flatten, g_46, g_54, fr] w := (hS.pick [0, 1, 2, 3, 4, 5]).of
   have e : M.accF n t th i = (M.count (⟨4, th, i, 0, 0, false⟩ : AccM) false, (⟨4, th, i, 0, 0, false⟩ : AccM)) := by simp only [MemM.accF, hd]; rfl
   refine ⟨.inr rfl, rfl, (.agg #[K.iv 4, K.iv th, K.iv i, .int .u64 0, .int .u64 0, .bool false]), K.resAt (rs := [.cell 12 132]) [.agg #[K.iv 4, K.iv th, K.iv i, .int .u64 0, .int .u64 0, .bool false]] rfl ⟨⟨_, rfl, K.lvN [K.iv 4, K.iv th, K.iv i, .int .u64 0, .int .u64 0, .bool false] (by kernel_rfl) (by kernel_rfl) (K.cells (K.cl ((hS.blk 2 rfl hg_55).cell rfl) (K.cl ((hS.blk 2 rfl hg_55).cell rfl) (K.cl ((hS.blk 2 rfl hg_55).cell rfl) (K.cl ((hS.blk 2 rfl hg_55).cell rfl) (K.cl ((hS.blk 2 rfl hg_55).cell rfl) (K.cl ((hS.blk 2 rfl hg_55).cell rfl) K.cl0)))))))⟩, trivial⟩, [[g_52, rp, rd].flatten], ?_, hS.pick [0, 3]⟩
   exact ⟨_, by rw [e]; rfl, rfl, by rw [e]; exact ⟨_, _, _, _, _, _, rfl, hg_53, hrp, hrd, hrnp, hrn18⟩⟩
 ·
  replace hS : K.Sat w0 [l, g_7, g_2, fr] w := hS
  refine K.q [.tuple #[.int .u64 0, .bool false], .int .u64 0, .bool false, .int .u64 0, .bool false] (K.z (K.t (K.s (K.s (K.g (K.q [K.iv 4, .bool false, .bool false, K.iv 4, .bool false, .bool false, .bool false, K.iv 4, .bool false, .bool false] (K.z (K.t (K.f (K.k (K.t (K.s (K.s (K.g ?_))))))))))))))
  refine K.q [K.iv 4, .bool false, .bool false, K.iv 4, .bool false, .bool false] (K.z (K.t (K.f (K.k (K.t (K.s (K.s (K.g (K.q [K.iv 4, .bool true] (K.z (K.t (K.h (K.s ?_)))))))))))))
  obtain ⟨rg, rp, rd, ra, rnp, rcp, rfl, hrg, hrp, hrd, hrnp, hrn18⟩ := x
  replace hS : K.Sat w0 [rg, rp, rd, g_7, g_2, fr] w := hS.of
  refine K.g (K.q [K.iv i] ?_)
  by_cases h_56 : (i : Int) ≥ (0 : Int)
  ·
   refine K.y ((i : Int) ≥ (0 : Int)) h_56 ?_
   refine K.q [.bool true, K.pa p, K.pa p, K.pa p] ?_
   refine K.d (K.pa q) ((hS.blk 0 rfl hrg).cell rfl) ?_
   refine K.q [K.iv th, K.iv i] ?_
   refine K.a (K.QR.quoi64 (i : Int) 8 ((i : Int) / 8) (by kernel_rfl) (by omega) (by omega)) ?_
   refine K.l (K.OW.gcall hS [2] [0, 1, 3, 4, 5] [K.pa q, K.iv 0, K.iv th, K.iv ((i : Int) / 8)] (rdDo0_ok _ _ _ _ _ _ hrd th ((i : Int) / 8) (by omega) (by omega)) ?_)
   clear hS; rintro _ _ w (⟨rfl, h_57, l_58, rfl, x_59⟩ | ⟨rfl, h_60, rfl⟩ | ⟨rfl, h_61, rfl⟩) hS
   ·
    replace hS : K.Sat w0 [l_58, rg, rp, g_7, g_2, fr] w := hS
    refine K.q [.bool true, .bool true, .bool true] (K.z (K.t (K.g (K.q [.bool true, .pointer (some ⟨r_4, 5, none⟩)] ?_))))
    refine K.l (K.OW.gst 3 [.bool true] _ hS hg_8 ?_)
    clear hS; intro w g_62 hg_63 hS
    replace hS : K.Sat w0 [l_58, rg, rp, g_62, g_2, fr] w := hS
    refine K.z (K.t (K.s (K.s (K.g (K.q [K.iv 4, .bool false] (K.z (K.t (K.f (K.k (K.t (K.s (K.g (K.q [K.pa p, K.pa p, K.pa p, .pointer (some ⟨p, 2, none⟩)] ?_)))))))))))))
    refine K.d (K.iv M.clock) ((hS.blk 1 rfl hrg).cell rfl) ?_
    refine K.q [K.iv (IntKind.i64.wrap ((M.clock : Int) + (1 : Int))), K.pa p, .pointer (some ⟨p, 2, none⟩)] ?_
    refine K.l (K.OW.gst 1 [K.iv (IntKind.i64.wrap ((M.clock : Int) + (1 : Int)))] _ hS hrg ?_)
    clear hS; intro w g_64 hg_65 hS
    replace hS : K.Sat w0 [l_58, g_64, rp, g_62, g_2, fr] w := hS
    refine K.z (K.t (K.s (K.s (K.g (K.q [.bool true, .bool false] (K.z (K.t (K.f (K.k (K.t (K.s (K.g (K.q [K.pa p] ?_)))))))))))))
    refine K.a (K.QR.ldN [K.iv 4, K.iv th, K.iv i, .int .u64 0, .int .u64 0, .bool true] rfl rfl (by kernel_rfl) (by kernel_rfl) (K.cells (K.cl ((hS.blk 3 rfl hg_63).cell rfl) (K.cl ((hS.blk 3 rfl hg_63).cell rfl) (K.cl ((hS.blk 3 rfl hg_63).cell rfl) (K.cl ((hS.blk 3 rfl hg_63).cell rfl) (K.cl ((hS.blk 3 rfl hg_63).cell rfl) (K.cl ((hS.blk 3 rfl hg_63).cell rfl) K.cl0)))))))) ?_
    refine K.q [K.pa p, .pointer (some ⟨p, 4, none⟩)] ?_
    refine K.l (K.OW.gst 1 [K.iv 4, K.iv th, K.iv i, .int .u64 0, .int .u64 0, .bool true] _ hS hg_65 ?_)
    clear hS; intro w g_66 hg_67 hS
    replace hS : K.Sat w0 [l_58, g_66, rp, g_62, g_2, fr] w := hS
    refine K.z (K.t (K.s (K.g ?_)))
    refine K.a (K.QR.ldN [K.iv 4, K.iv th, K.iv i, .int .u64 0, .int .u64 0, .bool true] rfl rfl (by kernel_rfl) (by kernel_rfl) (K.cells (K.cl ((hS.blk 3 rfl hg_63).cell rfl) (K.cl ((hS.blk 3 rfl hg_63).cell rfl) (K.cl ((hS.blk 3 rfl hg_63).cell rfl) (K.cl ((hS.blk 3 rfl hg_63).cell rfl) (K.cl ((hS.blk 3 rfl hg_63).cell rfl) (K.cl ((hS.blk 3 rfl hg_63).cell rfl) K.cl0)))))))) ?_
    refine K.l (K.OW.gst 4 [K.iv 4, K.iv th, K.iv i, .int .u64 0, .int .u64 0, .bool true] _ hS hg_3 ?_)
    clear hS; intro w g_68 hg_69 hS
    replace hS : K.Sat w0 [l_58, g_66, rp, g_62, g_68, fr] w := hS
    refine K.z (K.t (K.r ?_))
    have hd : decide ((0 : Int) ≤ i ∧ i < n * 8 ∧ 0 ≤ th ∧ th < t) = true := decide_eq_true (by omega)
    replace hS : K.Sat w0 [[g_66, rp, l_58].flatten, g_62, g_68, fr] w := (hS.pick [1, 2, 0, 3, 4, 5]).of
    have e : M.accF n t th i = (({ M with dev := (M.dev.mark th.toNat ((i : Int) / 8).toNat) } : MemM).count (⟨4, th, i, 0, 0, true⟩ : AccM) true, (⟨4, th, i, 0, 0, true⟩ : AccM)) := by simp only [MemM.accF, hd]; rfl
    refine ⟨.inr rfl, rfl, (.agg #[K.iv 4, K.iv th, K.iv i, .int .u64 0, .int .u64 0, .bool true]), K.resAt (rs := [.cell 12 132]) [.agg #[K.iv 4, K.iv th, K.iv i, .int .u64 0, .int .u64 0, .bool true]] rfl ⟨⟨_, rfl, K.lvN [K.iv 4, K.iv th, K.iv i, .int .u64 0, .int .u64 0, .bool true] (by kernel_rfl) (by kernel_rfl) (K.cells (K.cl ((hS.blk 2 rfl hg_69).cell rfl) (K.cl ((hS.blk 2 rfl hg_69).cell rfl) (K.cl ((hS.blk 2 rfl hg_69).cell rfl) (K.cl ((hS.blk 2 rfl hg_69).cell rfl) (K.cl ((hS.blk 2 rfl hg_69).cell rfl) (K.cl ((hS.blk 2 rfl hg_69).cell rfl) K.cl0)))))))⟩, trivial⟩, [[g_66, rp, l_58].flatten], ?_, hS.pick [0, 3]⟩
    exact ⟨_, by rw [e]; rfl, rfl, by rw [e]; exact ⟨_, _, _, _, _, _, rfl, hg_67, hrp, x_59, hrnp, hrn18⟩⟩
   ·
    replace hS : K.Sat w0 [rd, rg, rp, g_7, g_2, fr] w := hS
    refine K.q [.bool false, .bool false, .bool false] (K.z (K.t (K.g (K.q [.bool false, .pointer (some ⟨r_4, 5, none⟩)] ?_))))
    refine K.l (K.OW.gst 3 [.bool false] _ hS hg_8 ?_)
    clear hS; intro w g_70 hg_71 hS
    replace hS : K.Sat w0 [rd, rg, rp, g_70, g_2, fr] w := hS
    refine K.z (K.t (K.s (K.s (K.g (K.q [K.iv 4, .bool false] (K.z (K.t (K.f (K.k (K.t (K.s (K.g (K.q [K.pa p, K.pa p, K.pa p, .pointer (some ⟨p, 2, none⟩)] ?_)))))))))))))
    refine K.d (K.iv M.clock) ((hS.blk 1 rfl hrg).cell rfl) ?_
    refine K.q [K.iv (IntKind.i64.wrap ((M.clock : Int) + (1 : Int))), K.pa p, .pointer (some ⟨p, 2, none⟩)] ?_
    refine K.l (K.OW.gst 1 [K.iv (IntKind.i64.wrap ((M.clock : Int) + (1 : Int)))] _ hS hrg ?_)
    clear hS; intro w g_72 hg_73 hS
    replace hS : K.Sat w0 [rd, g_72, rp, g_70, g_2, fr] w := hS
    refine K.z (K.t (K.s (K.s (K.g (K.q [.bool false, .bool true] (K.z (K.t (K.h (K.g (K.q [K.pa p, K.pa p, K.pa p, .pointer (some ⟨p, 3, none⟩)] ?_))))))))))
    refine K.d (K.iv M.bad) ((hS.blk 1 rfl hg_73).cell rfl) ?_
    refine K.q [K.iv (IntKind.i64.wrap ((M.bad : Int) + (1 : Int))), K.pa p, .pointer (some ⟨p, 3, none⟩)] ?_
    refine K.l (K.OW.gst 1 [K.iv (IntKind.i64.wrap ((M.bad : Int) + (1 : Int)))] _ hS hg_73 ?_)
    clear hS; intro w g_74 hg_75 hS
    replace hS : K.Sat w0 [rd, g_74, rp, g_70, g_2, fr] w := hS
    refine K.z (K.t (K.s (K.g (K.q [K.pa p] ?_))))
    refine K.a (K.QR.ldN [K.iv 4, K.iv th, K.iv i, .int .u64 0, .int .u64 0, .bool false] rfl rfl (by kernel_rfl) (by kernel_rfl) (K.cells (K.cl ((hS.blk 3 rfl hg_71).cell rfl) (K.cl ((hS.blk 3 rfl hg_71).cell rfl) (K.cl ((hS.blk 3 rfl hg_71).cell rfl) (K.cl ((hS.blk 3 rfl hg_71).cell rfl) (K.cl ((hS.blk 3 rfl hg_71).cell rfl) (K.cl ((hS.blk 3 rfl hg_71).cell rfl) K.cl0)))))))) ?_
    refine K.q [K.pa p, .pointer (some ⟨p, 4, none⟩)] ?_
    refine K.l (K.OW.gst 1 [K.iv 4, K.iv th, K.iv i, .int .u64 0, .int .u64 0, .bool false] _ hS hg_75 ?_)
    clear hS; intro w g_76 hg_77 hS
    replace hS : K.Sat w0 [rd, g_76, rp, g_70, g_2, fr] w := hS
    refine K.z (K.t (K.s (K.g ?_)))
    refine K.a (K.QR.ldN [K.iv 4, K.iv th, K.iv i, .int .u64 0, .int .u64 0, .bool false] rfl rfl (by kernel_rfl) (by kernel_rfl) (K.cells (K.cl ((hS.blk 3 rfl hg_71).cell rfl) (K.cl ((hS.blk 3 rfl hg_71).cell rfl) (K.cl ((hS.blk 3 rfl hg_71).cell rfl) (K.cl ((hS.blk 3 rfl hg_71).cell rfl) (K.cl ((hS.blk 3 rfl hg_71).cell rfl) (K.cl ((hS.blk 3 rfl hg_71).cell rfl) K.cl0)))))))) ?_
    refine K.l (K.OW.gst 4 [K.iv 4, K.iv th, K.iv i, .int .u64 0, .int .u64 0, .bool false] _ hS hg_3 ?_)
    clear hS; intro w g_78 hg_79 hS
    replace hS : K.Sat w0 [rd, g_76, rp, g_70, g_78, fr] w := hS
    refine K.z (K.t (K.r ?_))
    have hd : decide ((0 : Int) ≤ i ∧ i < n * 8 ∧ 0 ≤ th ∧ th < t) = false := decide_eq_false (by omega)
    replace hS : K.Sat w0 [[g_76, rp, rd].flatten, g_70, g_78, fr] w := (hS.pick [1, 2, 0, 3, 4, 5]).of
    have e : M.accF n t th i = (M.count (⟨4, th, i, 0, 0, false⟩ : AccM) false, (⟨4, th, i, 0, 0, false⟩ : AccM)) := by simp only [MemM.accF, hd]; rfl
    refine ⟨.inr rfl, rfl, (.agg #[K.iv 4, K.iv th, K.iv i, .int .u64 0, .int .u64 0, .bool false]), K.resAt (rs := [.cell 12 132]) [.agg #[K.iv 4, K.iv th, K.iv i, .int .u64 0, .int .u64 0, .bool false]] rfl ⟨⟨_, rfl, K.lvN [K.iv 4, K.iv th, K.iv i, .int .u64 0, .int .u64 0, .bool false] (by kernel_rfl) (by kernel_rfl) (K.cells (K.cl ((hS.blk 2 rfl hg_79).cell rfl) (K.cl ((hS.blk 2 rfl hg_79).cell rfl) (K.cl ((hS.blk 2 rfl hg_79).cell rfl) (K.cl ((hS.blk 2 rfl hg_79).cell rfl) (K.cl ((hS.blk 2 rfl hg_79).cell rfl) (K.cl ((hS.blk 2 rfl hg_79).cell rfl) K.cl0)))))))⟩, trivial⟩, [[g_76, rp, rd].flatten], ?_, hS.pick [0, 3]⟩
    exact ⟨_, by rw [e]; rfl, rfl, by rw [e]; exact ⟨_, _, _, _, _, _, rfl, hg_77, hrp, hrd, hrnp, hrn18⟩⟩
   ·
    replace hS : K.Sat w0 [rd, rg, rp, g_7, g_2, fr] w := hS
    refine K.q [.bool false, .bool false, .bool false] (K.z (K.t (K.g (K.q [.bool false, .pointer (some ⟨r_4, 5, none⟩)] ?_))))
    refine K.l (K.OW.gst 3 [.bool false] _ hS hg_8 ?_)
    clear hS; intro w g_80 hg_81 hS
    replace hS : K.Sat w0 [rd, rg, rp, g_80, g_2, fr] w := hS
    refine K.z (K.t (K.s (K.s (K.g (K.q [K.iv 4, .bool false] (K.z (K.t (K.f (K.k (K.t (K.s (K.g (K.q [K.pa p, K.pa p, K.pa p, .pointer (some ⟨p, 2, none⟩)] ?_)))))))))))))
    refine K.d (K.iv M.clock) ((hS.blk 1 rfl hrg).cell rfl) ?_
    refine K.q [K.iv (IntKind.i64.wrap ((M.clock : Int) + (1 : Int))), K.pa p, .pointer (some ⟨p, 2, none⟩)] ?_
    refine K.l (K.OW.gst 1 [K.iv (IntKind.i64.wrap ((M.clock : Int) + (1 : Int)))] _ hS hrg ?_)
    clear hS; intro w g_82 hg_83 hS
    replace hS : K.Sat w0 [rd, g_82, rp, g_80, g_2, fr] w := hS
    refine K.z (K.t (K.s (K.s (K.g (K.q [.bool false, .bool true] (K.z (K.t (K.h (K.g (K.q [K.pa p, K.pa p, K.pa p, .pointer (some ⟨p, 3, none⟩)] ?_))))))))))
    refine K.d (K.iv M.bad) ((hS.blk 1 rfl hg_83).cell rfl) ?_
    refine K.q [K.iv (IntKind.i64.wrap ((M.bad : Int) + (1 : Int))), K.pa p, .pointer (some ⟨p, 3, none⟩)] ?_
    refine K.l (K.OW.gst 1 [K.iv (IntKind.i64.wrap ((M.bad : Int) + (1 : Int)))] _ hS hg_83 ?_)
    clear hS; intro w g_84 hg_85 hS
    replace hS : K.Sat w0 [rd, g_84, rp, g_80, g_2, fr] w := hS
    refine K.z (K.t (K.s (K.g (K.q [K.pa p] ?_))))
    refine K.a (K.QR.ldN [K.iv 4, K.iv th, K.iv i, .int .u64 0, .int .u64 0, .bool false] rfl rfl (by kernel_rfl) (by kernel_rfl) (K.cells (K.cl ((hS.blk 3 rfl hg_81).cell rfl) (K.cl ((hS.blk 3 rfl hg_81).cell rfl) (K.cl ((hS.blk 3 rfl hg_81).cell rfl) (K.cl ((hS.blk 3 rfl hg_81).cell rfl) (K.cl ((hS.blk 3 rfl hg_81).cell rfl) (K.cl ((hS.blk 3 rfl hg_81).cell rfl) K.cl0)))))))) ?_
    refine K.q [K.pa p, .pointer (some ⟨p, 4, none⟩)] ?_
    refine K.l (K.OW.gst 1 [K.iv 4, K.iv th, K.iv i, .int .u64 0, .int .u64 0, .bool false] _ hS hg_85 ?_)
    clear hS; intro w g_86 hg_87 hS
    replace hS : K.Sat w0 [rd, g_86, rp, g_80, g_2, fr] w := hS
    refine K.z (K.t (K.s (K.g ?_)))
    refine K.a (K.QR.ldN [K.iv 4, K.iv th, K.iv i, .int .u64 0, .int .u64 0, .bool false] rfl rfl (by kernel_rfl) (by kernel_rfl) (K.cells (K.cl ((hS.blk 3 rfl hg_81).cell rfl) (K.cl ((hS.blk 3 rfl hg_81).cell rfl) (K.cl ((hS.blk 3 rfl hg_81).cell rfl) (K.cl ((hS.blk 3 rfl hg_81).cell rfl) (K.cl ((hS.blk 3 rfl hg_81).cell rfl) (K.cl ((hS.blk 3 rfl hg_81).cell rfl) K.cl0)))))))) ?_
    refine K.l (K.OW.gst 4 [K.iv 4, K.iv th, K.iv i, .int .u64 0, .int .u64 0, .bool false] _ hS hg_3 ?_)
    clear hS; intro w g_88 hg_89 hS
    replace hS : K.Sat w0 [rd, g_86, rp, g_80, g_88, fr] w := hS
    refine K.z (K.t (K.r ?_))
    have hd : decide ((0 : Int) ≤ i ∧ i < n * 8 ∧ 0 ≤ th ∧ th < t) = false := decide_eq_false (by omega)
    replace hS : K.Sat w0 [[g_86, rp, rd].flatten, g_80, g_88, fr] w := (hS.pick [1, 2, 0, 3, 4, 5]).of
    have e : M.accF n t th i = (M.count (⟨4, th, i, 0, 0, false⟩ : AccM) false, (⟨4, th, i, 0, 0, false⟩ : AccM)) := by simp only [MemM.accF, hd]; rfl
    refine ⟨.inr rfl, rfl, (.agg #[K.iv 4, K.iv th, K.iv i, .int .u64 0, .int .u64 0, .bool false]), K.resAt (rs := [.cell 12 132]) [.agg #[K.iv 4, K.iv th, K.iv i, .int .u64 0, .int .u64 0, .bool false]] rfl ⟨⟨_, rfl, K.lvN [K.iv 4, K.iv th, K.iv i, .int .u64 0, .int .u64 0, .bool false] (by kernel_rfl) (by kernel_rfl) (K.cells (K.cl ((hS.blk 2 rfl hg_89).cell rfl) (K.cl ((hS.blk 2 rfl hg_89).cell rfl) (K.cl ((hS.blk 2 rfl hg_89).cell rfl) (K.cl ((hS.blk 2 rfl hg_89).cell rfl) (K.cl ((hS.blk 2 rfl hg_89).cell rfl) (K.cl ((hS.blk 2 rfl hg_89).cell rfl) K.cl0)))))))⟩, trivial⟩, [[g_86, rp, rd].flatten], ?_, hS.pick [0, 3]⟩
    exact ⟨_, by rw [e]; rfl, rfl, by rw [e]; exact ⟨_, _, _, _, _, _, rfl, hg_87, hrp, hrd, hrnp, hrn18⟩⟩
  ·
   refine K.x ((i : Int) ≥ (0 : Int)) h_56 ?_
   refine K.q [.bool false] (K.n_ (K.n_ (K.n_ (K.n_ (K.n_ (K.n_ (K.n_ (K.n_ (K.n_ (K.q [.bool false, .bool false] (K.z (K.t (K.g (K.q [.bool false, .pointer (some ⟨r_4, 5, none⟩)] ?_))))))))))))))
   refine K.l (K.OW.gst 3 [.bool false] _ hS hg_8 ?_)
   clear hS; intro w g_90 hg_91 hS
   replace hS : K.Sat w0 [rg, rp, rd, g_90, g_2, fr] w := hS
   refine K.z (K.t (K.s (K.s (K.g (K.q [K.iv 4, .bool false] (K.z (K.t (K.f (K.k (K.t (K.s (K.g (K.q [K.pa p, K.pa p, K.pa p, .pointer (some ⟨p, 2, none⟩)] ?_)))))))))))))
   refine K.d (K.iv M.clock) ((hS.blk 0 rfl hrg).cell rfl) ?_
   refine K.q [K.iv (IntKind.i64.wrap ((M.clock : Int) + (1 : Int))), K.pa p, .pointer (some ⟨p, 2, none⟩)] ?_
   refine K.l (K.OW.gst 0 [K.iv (IntKind.i64.wrap ((M.clock : Int) + (1 : Int)))] _ hS hrg ?_)
   clear hS; intro w g_92 hg_93 hS
   replace hS : K.Sat w0 [g_92, rp, rd, g_90, g_2, fr] w := hS
   refine K.z (K.t (K.s (K.s (K.g (K.q [.bool false, .bool true] (K.z (K.t (K.h (K.g (K.q [K.pa p, K.pa p, K.pa p, .pointer (some ⟨p, 3, none⟩)] ?_))))))))))
   refine K.d (K.iv M.bad) ((hS.blk 0 rfl hg_93).cell rfl) ?_
   refine K.q [K.iv (IntKind.i64.wrap ((M.bad : Int) + (1 : Int))), K.pa p, .pointer (some ⟨p, 3, none⟩)] ?_
   refine K.l (K.OW.gst 0 [K.iv (IntKind.i64.wrap ((M.bad : Int) + (1 : Int)))] _ hS hg_93 ?_)
   clear hS; intro w g_94 hg_95 hS
   replace hS : K.Sat w0 [g_94, rp, rd, g_90, g_2, fr] w := hS
   refine K.z (K.t (K.s (K.g (K.q [K.pa p] ?_))))
   refine K.a (K.QR.ldN [K.iv 4, K.iv th, K.iv i, .int .u64 0, .int .u64 0, .bool false] rfl rfl (by kernel_rfl) (by kernel_rfl) (K.cells (K.cl ((hS.blk 3 rfl hg_91).cell rfl) (K.cl ((hS.blk 3 rfl hg_91).cell rfl) (K.cl ((hS.blk 3 rfl hg_91).cell rfl) (K.cl ((hS.blk 3 rfl hg_91).cell rfl) (K.cl ((hS.blk 3 rfl hg_91).cell rfl) (K.cl ((hS.blk 3 rfl hg_91).cell rfl) K.cl0)))))))) ?_
   refine K.q [K.pa p, .pointer (some ⟨p, 4, none⟩)] ?_
   refine K.l (K.OW.gst 0 [K.iv 4, K.iv th, K.iv i, .int .u64 0, .int .u64 0, .bool false] _ hS hg_95 ?_)
   clear hS; intro w g_96 hg_97 hS
   replace hS : K.Sat w0 [g_96, rp, rd, g_90, g_2, fr] w := hS
   refine K.z (K.t (K.s (K.g ?_)))
   refine K.a (K.QR.ldN [K.iv 4, K.iv th, K.iv i, .int .u64 0, .int .u64 0, .bool false] rfl rfl (by kernel_rfl) (by kernel_rfl) (K.cells (K.cl ((hS.blk 3 rfl hg_91).cell rfl) (K.cl ((hS.blk 3 rfl hg_91).cell rfl) (K.cl ((hS.blk 3 rfl hg_91).cell rfl) (K.cl ((hS.blk 3 rfl hg_91).cell rfl) (K.cl ((hS.blk 3 rfl hg_91).cell rfl) (K.cl ((hS.blk 3 rfl hg_91).cell rfl) K.cl0)))))))) ?_
   refine K.l (K.OW.gst 4 [K.iv 4, K.iv th, K.iv i, .int .u64 0, .int .u64 0, .bool false] _ hS hg_3 ?_)
   clear hS; intro w g_98 hg_99 hS
   replace hS : K.Sat w0 [g_96, rp, rd, g_90, g_98, fr] w := hS
   refine K.z (K.t (K.r ?_))
   have hd : decide ((0 : Int) ≤ i ∧ i < n * 8 ∧ 0 ≤ th ∧ th < t) = false := decide_eq_false (by omega)
   replace hS : K.Sat w0 [[g_96, rp, rd].flatten, g_90, g_98, fr] w := (hS.pick [0, 1, 2, 3, 4, 5]).of
   have e : M.accF n t th i = (M.count (⟨4, th, i, 0, 0, false⟩ : AccM) false, (⟨4, th, i, 0, 0, false⟩ : AccM)) := by simp only [MemM.accF, hd]; rfl
   refine ⟨.inr rfl, rfl, (.agg #[K.iv 4, K.iv th, K.iv i, .int .u64 0, .int .u64 0, .bool false]), K.resAt (rs := [.cell 12 132]) [.agg #[K.iv 4, K.iv th, K.iv i, .int .u64 0, .int .u64 0, .bool false]] rfl ⟨⟨_, rfl, K.lvN [K.iv 4, K.iv th, K.iv i, .int .u64 0, .int .u64 0, .bool false] (by kernel_rfl) (by kernel_rfl) (K.cells (K.cl ((hS.blk 2 rfl hg_99).cell rfl) (K.cl ((hS.blk 2 rfl hg_99).cell rfl) (K.cl ((hS.blk 2 rfl hg_99).cell rfl) (K.cl ((hS.blk 2 rfl hg_99).cell rfl) (K.cl ((hS.blk 2 rfl hg_99).cell rfl) (K.cl ((hS.blk 2 rfl hg_99).cell rfl) K.cl0)))))))⟩, trivial⟩, [[g_96, rp, rd].flatten], ?_, hS.pick [0, 3]⟩
   exact ⟨_, by rw [e]; rfl, rfl, by rw [e]; exact ⟨_, _, _, _, _, _, rfl, hg_97, hrp, hrd, hrnp, hrn18⟩⟩
set_option maxHeartbeats 1000000 in
set_option maxRecDepth 100000 in
theorem rmDo5_ok (w0 : World) (p q n t : Nat) (M : MemM) (l : K.Cs) (x : RMemAt l p q n t M) (th i old wo : Int) (hth : isInt th) (hi : isInt i) :
  K.GC Tryz.prog w0 67 #[K.pa p, K.iv 5, K.iv th, K.iv i, .int .u64 old, .int .u64 wo] [l] (fun v post => ∃ l', v = .agg (cAcc (M.accE t th).2).toArray ∧ post = [l'] ∧ RMemAt l' p q n t (M.accE t th).1) := by
 refine K.GC.mk (n := 139) Tryz.func67 rfl rfl [K.pa p, K.iv 5, K.iv th, K.iv i, .int .u64 old, .int .u64 wo] rfl rfl ?_
 intro fr w hS
 replace hS : K.Sat w0 [l, fr] w := hS
 refine K.s (K.g ?_)
 refine K.l (K.OW.gnew 132 [K.iv 0, K.iv 0, K.iv 0, .int .u64 0, .int .u64 0, .bool false] hS ?_)
 clear hS; intro w r_1 g_2 hg_3 hS
 refine K.z (K.t (K.s (K.g (K.q [K.iv 5, K.iv th, K.iv i] ?_))))
 refine K.a (K.QR.bd [(0, K.iv 5), (1, K.iv th), (2, K.iv i)] [K.iv 5, K.iv th, K.iv i, .int .u64 0, .int .u64 0, .bool false] rfl rfl (by kernel_rfl)) ?_
 refine K.l (K.OW.gnew 132 [K.iv 0, K.iv 0, K.iv 0, .int .u64 0, .int .u64 0, .bool false] hS ?_)
 clear hS; intro w r_4 g_5 hg_6 hS
 refine K.l (K.OW.gst 0 [K.iv 5, K.iv th, K.iv i, .int .u64 0, .int .u64 0, .bool false] _ hS hg_6 ?_)
 clear hS; intro w g_7 hg_8 hS
 replace hS : K.Sat w0 [g_7, g_2, l, fr] w := hS
 refine K.z (K.t (K.s (K.g (K.q [K.pa p, K.iv i] ?_))))
 refine K.l (K.OW.gcall hS [2] [0, 1, 3] [K.pa p, K.iv i] (rmPeek_ok _ _ _ _ _ _ _ x i (by omega)) ?_)
 clear hS; rintro _ _ w ⟨rfl, (⟨y_9, rfl, h_10⟩ | ⟨rfl, h_11⟩)⟩ hS
 ·
  replace hS : K.Sat w0 [l, g_7, g_2, fr] w := hS
  refine K.q [.tuple #[.int .u64 y_9, .bool true], .int .u64 y_9, .bool true, .int .u64 y_9, .bool true] (K.z (K.t (K.s (K.s (K.g (K.q [K.iv 5, .bool false, .bool false, K.iv 5, .bool false, .bool false, .bool false, K.iv 5, .bool false, .bool false] (K.z (K.t (K.f (K.k (K.t (K.s (K.s (K.g ?_))))))))))))))
  refine K.q [K.iv 5, .bool false, .bool false, K.iv 5, .bool false, .bool false] (K.z (K.t (K.f (K.k (K.t (K.s (K.s (K.g (K.q [K.iv 5, .bool false] (K.z (K.t (K.f (K.k (K.t ?_))))))))))))))
  refine K.s (K.s (K.g (K.q [K.iv 5, .bool true] (K.z (K.t (K.h (K.s (K.g (K.q [.pointer (some ⟨r_4, 2, none⟩)] ?_)))))))))
  refine K.l (K.OW.gst 1 [K.iv 0] _ hS hg_8 ?_)
  clear hS; intro w g_12 hg_13 hS
  replace hS : K.Sat w0 [l, g_12, g_2, fr] w := hS
  refine K.z (K.t (K.s ?_))
  obtain ⟨rg, rp, rd, ra, rnp, rcp, rfl, hrg, hrp, hrd, hrnp, hrn18⟩ := x
  replace hS : K.Sat w0 [rg, rp, rd, g_12, g_2, fr] w := hS.of
  refine K.g (K.q [K.pa p, K.pa p, K.pa p] ?_)
  refine K.d (K.pa q) ((hS.blk 0 rfl hrg).cell rfl) ?_
  refine K.q [K.iv th] ?_
  refine K.l (K.OW.gcall hS [2] [0, 1, 3, 4, 5] [K.pa q, K.iv 1, K.iv th, K.iv 0] (rdDo1_ok _ _ _ _ _ _ hrd th 0 (by omega) (by omega)) ?_)
  clear hS; rintro _ _ w (⟨rfl, h_14, l_15, rfl, x_16⟩ | ⟨rfl, h_17, rfl⟩) hS
  ·
   replace hS : K.Sat w0 [l_15, rg, rp, g_12, g_2, fr] w := hS
   refine K.q [.bool true, .bool true] (K.z (K.t (K.g (K.q [.bool true, .pointer (some ⟨r_4, 5, none⟩)] ?_))))
   refine K.l (K.OW.gst 3 [.bool true] _ hS hg_13 ?_)
   clear hS; intro w g_18 hg_19 hS
   replace hS : K.Sat w0 [l_15, rg, rp, g_18, g_2, fr] w := hS
   refine K.z (K.t (K.s (K.g (K.q [K.pa p, K.pa p, K.pa p, .pointer (some ⟨p, 2, none⟩)] ?_))))
   refine K.d (K.iv M.clock) ((hS.blk 1 rfl hrg).cell rfl) ?_
   refine K.q [K.iv (IntKind.i64.wrap ((M.clock : Int) + (1 : Int))), K.pa p, .pointer (some ⟨p, 2, none⟩)] ?_
   refine K.l (K.OW.gst 1 [K.iv (IntKind.i64.wrap ((M.clock : Int) + (1 : Int)))] _ hS hrg ?_)
   clear hS; intro w g_20 hg_21 hS
   replace hS : K.Sat w0 [l_15, g_20, rp, g_18, g_2, fr] w := hS
   refine K.z (K.t (K.s (K.s (K.g (K.q [.bool true, .bool false] (K.z (K.t (K.f (K.k (K.t (K.s (K.g (K.q [K.pa p] ?_)))))))))))))
   refine K.a (K.QR.ldN [K.iv 5, K.iv th, K.iv 0, .int .u64 0, .int .u64 0, .bool true] rfl rfl (by kernel_rfl) (by kernel_rfl) (K.cells (K.cl ((hS.blk 3 rfl hg_19).cell rfl) (K.cl ((hS.blk 3 rfl hg_19).cell rfl) (K.cl ((hS.blk 3 rfl hg_19).cell rfl) (K.cl ((hS.blk 3 rfl hg_19).cell rfl) (K.cl ((hS.blk 3 rfl hg_19).cell rfl) (K.cl ((hS.blk 3 rfl hg_19).cell rfl) K.cl0)))))))) ?_
   refine K.q [K.pa p, .pointer (some ⟨p, 4, none⟩)] ?_
   refine K.l (K.OW.gst 1 [K.iv 5, K.iv th, K.iv 0, .int .u64 0, .int .u64 0, .bool true] _ hS hg_21 ?_)
   clear hS; intro w g_22 hg_23 hS
   replace hS : K.Sat w0 [l_15, g_22, rp, g_18, g_2, fr] w := hS
   refine K.z (K.t (K.s (K.g ?_)))
   refine K.a (K.QR.ldN [K.iv 5, K.iv th, K.iv 0, .int .u64 0, .int .u64 0, .bool true] rfl rfl (by kernel_rfl) (by kernel_rfl) (K.cells (K.cl ((hS.blk 3 rfl hg_19).cell rfl) (K.cl ((hS.blk 3 rfl hg_19).cell rfl) (K.cl ((hS.blk 3 rfl hg_19).cell rfl) (K.cl ((hS.blk 3 rfl hg_19).cell rfl) (K.cl ((hS.blk 3 rfl hg_19).cell rfl) (K.cl ((hS.blk 3 rfl hg_19).cell rfl) K.cl0)))))))) ?_
   refine K.l (K.OW.gst 4 [K.iv 5, K.iv th, K.iv 0, .int .u64 0, .int .u64 0, .bool true] _ hS hg_3 ?_)
   clear hS; intro w g_24 hg_25 hS
   replace hS : K.Sat w0 [l_15, g_22, rp, g_18, g_24, fr] w := hS
   refine K.z (K.t (K.r ?_))
   have hd : decide ((0 : Int) ≤ th ∧ th < t) = true := decide_eq_true (by omega)
   replace hS : K.Sat w0 [[g_22, rp, l_15].flatten, g_18, g_24, fr] w := (hS.pick [1, 2, 0, 3, 4, 5]).of
   have e : M.accE t th = (({ M with dev := (M.dev.fence th.toNat) } : MemM).count (⟨5, th, 0, 0, 0, true⟩ : AccM) true, (⟨5, th, 0, 0, 0, true⟩ : AccM)) := by simp only [MemM.accE, hd]; rfl
   refine ⟨.inr rfl, rfl, (.agg #[K.iv 5, K.iv th, K.iv 0, .int .u64 0, .int .u64 0, .bool true]), K.resAt (rs := [.cell 12 132]) [.agg #[K.iv 5, K.iv th, K.iv 0, .int .u64 0, .int .u64 0, .bool true]] rfl ⟨⟨_, rfl, K.lvN [K.iv 5, K.iv th, K.iv 0, .int .u64 0, .int .u64 0, .bool true] (by kernel_rfl) (by kernel_rfl) (K.cells (K.cl ((hS.blk 2 rfl hg_25).cell rfl) (K.cl ((hS.blk 2 rfl hg_25).cell rfl) (K.cl ((hS.blk 2 rfl hg_25).cell rfl) (K.cl ((hS.blk 2 rfl hg_25).cell rfl) (K.cl ((hS.blk 2 rfl hg_25).cell rfl) (K.cl ((hS.blk 2 rfl hg_25).cell rfl) K.cl0)))))))⟩, trivial⟩, [[g_22, rp, l_15].flatten], ?_, hS.pick [0, 3]⟩
   exact ⟨_, by rw [e]; rfl, rfl, by rw [e]; exact ⟨_, _, _, _, _, _, rfl, hg_23, hrp, x_16, hrnp, hrn18⟩⟩
  ·
   replace hS : K.Sat w0 [rd, rg, rp, g_12, g_2, fr] w := hS
   refine K.q [.bool false, .bool false] (K.z (K.t (K.g (K.q [.bool false, .pointer (some ⟨r_4, 5, none⟩)] ?_))))
   refine K.l (K.OW.gst 3 [.bool false] _ hS hg_13 ?_)
   clear hS; intro w g_26 hg_27 hS
   replace hS : K.Sat w0 [rd, rg, rp, g_26, g_2, fr] w := hS
   refine K.z (K.t (K.s (K.g (K.q [K.pa p, K.pa p, K.pa p, .pointer (some ⟨p, 2, none⟩)] ?_))))
   refine K.d (K.iv M.clock) ((hS.blk 1 rfl hrg).cell rfl) ?_
   refine K.q [K.iv (IntKind.i64.wrap ((M.clock : Int) + (1 : Int))), K.pa p, .pointer (some ⟨p, 2, none⟩)] ?_
   refine K.l (K.OW.gst 1 [K.iv (IntKind.i64.wrap ((M.clock : Int) + (1 : Int)))] _ hS hrg ?_)
   clear hS; intro w g_28 hg_29 hS
   replace hS : K.Sat w0 [rd, g_28, rp, g_26, g_2, fr] w := hS
   refine K.z (K.t (K.s (K.s (K.g (K.q [.bool false, .bool true] (K.z (K.t (K.h (K.g (K.q [K.pa p, K.pa p, K.pa p, .pointer (some ⟨p, 3, none⟩)] ?_))))))))))
   refine K.d (K.iv M.bad) ((hS.blk 1 rfl hg_29).cell rfl) ?_
   refine K.q [K.iv (IntKind.i64.wrap ((M.bad : Int) + (1 : Int))), K.pa p, .pointer (some ⟨p, 3, none⟩)] ?_
   refine K.l (K.OW.gst 1 [K.iv (IntKind.i64.wrap ((M.bad : Int) + (1 : Int)))] _ hS hg_29 ?_)
   clear hS; intro w g_30 hg_31 hS
   replace hS : K.Sat w0 [rd, g_30, rp, g_26, g_2, fr] w := hS
   refine K.z (K.t (K.s (K.g (K.q [K.pa p] ?_))))
   refine K.a (K.QR.ldN [K.iv 5, K.iv th, K.iv 0, .int .u64 0, .int .u64 0, .bool false] rfl rfl (by kernel_rfl) (by kernel_rfl) (K.cells (K.cl ((hS.blk 3 rfl hg_27).cell rfl) (K.cl ((hS.blk 3 rfl hg_27).cell rfl) (K.cl ((hS.blk 3 rfl hg_27).cell rfl) (K.cl ((hS.blk 3 rfl hg_27).cell rfl) (K.cl ((hS.blk 3 rfl hg_27).cell rfl) (K.cl ((hS.blk 3 rfl hg_27).cell rfl) K.cl0)))))))) ?_
   refine K.q [K.pa p, .pointer (some ⟨p, 4, none⟩)] ?_
   refine K.l (K.OW.gst 1 [K.iv 5, K.iv th, K.iv 0, .int .u64 0, .int .u64 0, .bool false] _ hS hg_31 ?_)
   clear hS; intro w g_32 hg_33 hS
   replace hS : K.Sat w0 [rd, g_32, rp, g_26, g_2, fr] w := hS
   refine K.z (K.t (K.s (K.g ?_)))
   refine K.a (K.QR.ldN [K.iv 5, K.iv th, K.iv 0, .int .u64 0, .int .u64 0, .bool false] rfl rfl (by kernel_rfl) (by kernel_rfl) (K.cells (K.cl ((hS.blk 3 rfl hg_27).cell rfl) (K.cl ((hS.blk 3 rfl hg_27).cell rfl) (K.cl ((hS.blk 3 rfl hg_27).cell rfl) (K.cl ((hS.blk 3 rfl hg_27).cell rfl) (K.cl ((hS.blk 3 rfl hg_27).cell rfl) (K.cl ((hS.blk 3 rfl hg_27).cell rfl) K.cl0)))))))) ?_
   refine K.l (K.OW.gst 4 [K.iv 5, K.iv th, K.iv 0, .int .u64 0, .int .u64 0, .bool false] _ hS hg_3 ?_)
   clear hS; intro w g_34 hg_35 hS
   replace hS : K.Sat w0 [rd, g_32, rp, g_26, g_34, fr] w := hS
   refine K.z (K.t (K.r ?_))
   have hd : decide ((0 : Int) ≤ th ∧ th < t) = false := decide_eq_false (by omega)
   replace hS : K.Sat w0 [[g_32, rp, rd].flatten, g_26, g_34, fr] w := (hS.pick [1, 2, 0, 3, 4, 5]).of
   have e : M.accE t th = (M.count (⟨5, th, 0, 0, 0, false⟩ : AccM) false, (⟨5, th, 0, 0, 0, false⟩ : AccM)) := by simp only [MemM.accE, hd]; rfl
   refine ⟨.inr rfl, rfl, (.agg #[K.iv 5, K.iv th, K.iv 0, .int .u64 0, .int .u64 0, .bool false]), K.resAt (rs := [.cell 12 132]) [.agg #[K.iv 5, K.iv th, K.iv 0, .int .u64 0, .int .u64 0, .bool false]] rfl ⟨⟨_, rfl, K.lvN [K.iv 5, K.iv th, K.iv 0, .int .u64 0, .int .u64 0, .bool false] (by kernel_rfl) (by kernel_rfl) (K.cells (K.cl ((hS.blk 2 rfl hg_35).cell rfl) (K.cl ((hS.blk 2 rfl hg_35).cell rfl) (K.cl ((hS.blk 2 rfl hg_35).cell rfl) (K.cl ((hS.blk 2 rfl hg_35).cell rfl) (K.cl ((hS.blk 2 rfl hg_35).cell rfl) (K.cl ((hS.blk 2 rfl hg_35).cell rfl) K.cl0)))))))⟩, trivial⟩, [[g_32, rp, rd].flatten], ?_, hS.pick [0, 3]⟩
   exact ⟨_, by rw [e]; rfl, rfl, by rw [e]; exact ⟨_, _, _, _, _, _, rfl, hg_33, hrp, hrd, hrnp, hrn18⟩⟩
 ·
  replace hS : K.Sat w0 [l, g_7, g_2, fr] w := hS
  refine K.q [.tuple #[.int .u64 0, .bool false], .int .u64 0, .bool false, .int .u64 0, .bool false] (K.z (K.t (K.s (K.s (K.g (K.q [K.iv 5, .bool false, .bool false, K.iv 5, .bool false, .bool false, .bool false, K.iv 5, .bool false, .bool false] (K.z (K.t (K.f (K.k (K.t (K.s (K.s (K.g ?_))))))))))))))
  refine K.q [K.iv 5, .bool false, .bool false, K.iv 5, .bool false, .bool false] (K.z (K.t (K.f (K.k (K.t (K.s (K.s (K.g (K.q [K.iv 5, .bool false] (K.z (K.t (K.f (K.k (K.t ?_))))))))))))))
  refine K.s (K.s (K.g (K.q [K.iv 5, .bool true] (K.z (K.t (K.h (K.s (K.g (K.q [.pointer (some ⟨r_4, 2, none⟩)] ?_)))))))))
  refine K.l (K.OW.gst 1 [K.iv 0] _ hS hg_8 ?_)
  clear hS; intro w g_36 hg_37 hS
  replace hS : K.Sat w0 [l, g_36, g_2, fr] w := hS
  refine K.z (K.t (K.s ?_))
  obtain ⟨rg, rp, rd, ra, rnp, rcp, rfl, hrg, hrp, hrd, hrnp, hrn18⟩ := x
  replace hS : K.Sat w0 [rg, rp, rd, g_36, g_2, fr] w := hS.of
  refine K.g (K.q [K.pa p, K.pa p, K.pa p] ?_)
  refine K.d (K.pa q) ((hS.blk 0 rfl hrg).cell rfl) ?_
  refine K.q [K.iv th] ?_
  refine K.l (K.OW.gcall hS [2] [0, 1, 3, 4, 5] [K.pa q, K.iv 1, K.iv th, K.iv 0] (rdDo1_ok _ _ _ _ _ _ hrd th 0 (by omega) (by omega)) ?_)
  clear hS; rintro _ _ w (⟨rfl, h_38, l_39, rfl, x_40⟩ | ⟨rfl, h_41, rfl⟩) hS
  ·
   replace hS : K.Sat w0 [l_39, rg, rp, g_36, g_2, fr] w := hS
   refine K.q [.bool true, .bool true] (K.z (K.t (K.g (K.q [.bool true, .pointer (some ⟨r_4, 5, none⟩)] ?_))))
   refine K.l (K.OW.gst 3 [.bool true] _ hS hg_37 ?_)
   clear hS; intro w g_42 hg_43 hS
   replace hS : K.Sat w0 [l_39, rg, rp, g_42, g_2, fr] w := hS
   refine K.z (K.t (K.s (K.g (K.q [K.pa p, K.pa p, K.pa p, .pointer (some ⟨p, 2, none⟩)] ?_))))
   refine K.d (K.iv M.clock) ((hS.blk 1 rfl hrg).cell rfl) ?_
   refine K.q [K.iv (IntKind.i64.wrap ((M.clock : Int) + (1 : Int))), K.pa p, .pointer (some ⟨p, 2, none⟩)] ?_
   refine K.l (K.OW.gst 1 [K.iv (IntKind.i64.wrap ((M.clock : Int) + (1 : Int)))] _ hS hrg ?_)
   clear hS; intro w g_44 hg_45 hS
   replace hS : K.Sat w0 [l_39, g_44, rp, g_42, g_2, fr] w := hS
   refine K.z (K.t (K.s (K.s (K.g (K.q [.bool true, .bool false] (K.z (K.t (K.f (K.k (K.t (K.s (K.g (K.q [K.pa p] ?_)))))))))))))
   refine K.a (K.QR.ldN [K.iv 5, K.iv th, K.iv 0, .int .u64 0, .int .u64 0, .bool true] rfl rfl (by kernel_rfl) (by kernel_rfl) (K.cells (K.cl ((hS.blk 3 rfl hg_43).cell rfl) (K.cl ((hS.blk 3 rfl hg_43).cell rfl) (K.cl ((hS.blk 3 rfl hg_43).cell rfl) (K.cl ((hS.blk 3 rfl hg_43).cell rfl) (K.cl ((hS.blk 3 rfl hg_43).cell rfl) (K.cl ((hS.blk 3 rfl hg_43).cell rfl) K.cl0)))))))) ?_
   refine K.q [K.pa p, .pointer (some ⟨p, 4, none⟩)] ?_
   refine K.l (K.OW.gst 1 [K.iv 5, K.iv th, K.iv 0, .int .u64 0, .int .u64 0, .bool true] _ hS hg_45 ?_)
   clear hS; intro w g_46 hg_47 hS
   replace hS : K.Sat w0 [l_39, g_46, rp, g_42, g_2, fr] w := hS
   refine K.z (K.t (K.s (K.g ?_)))
   refine K.a (K.QR.ldN [K.iv 5, K.iv th, K.iv 0, .int .u64 0, .int .u64 0, .bool true] rfl rfl (by kernel_rfl) (by kernel_rfl) (K.cells (K.cl ((hS.blk 3 rfl hg_43).cell rfl) (K.cl ((hS.blk 3 rfl hg_43).cell rfl) (K.cl ((hS.blk 3 rfl hg_43).cell rfl) (K.cl ((hS.blk 3 rfl hg_43).cell rfl) (K.cl ((hS.blk 3 rfl hg_43).cell rfl) (K.cl ((hS.blk 3 rfl hg_43).cell rfl) K.cl0)))))))) ?_
   refine K.l (K.OW.gst 4 [K.iv 5, K.iv th, K.iv 0, .int .u64 0, .int .u64 0, .bool true] _ hS hg_3 ?_)
   clear hS; intro w g_48 hg_49 hS
   replace hS : K.Sat w0 [l_39, g_46, rp, g_42, g_48, fr] w := hS
   refine K.z (K.t (K.r ?_))
   have hd : decide ((0 : Int) ≤ th ∧ th < t) = true := decide_eq_true (by omega)
   replace hS : K.Sat w0 [[g_46, rp, l_39].flatten, g_42, g_48, fr] w := (hS.pick [1, 2, 0, 3, 4, 5]).of
   have e : M.accE t th = (({ M with dev := (M.dev.fence th.toNat) } : MemM).count (⟨5, th, 0, 0, 0, true⟩ : AccM) true, (⟨5, th, 0, 0, 0, true⟩ : AccM)) := by simp only [MemM.accE, hd]; rfl
   refine ⟨.inr rfl, rfl, (.agg #[K.iv 5, K.iv th, K.iv 0, .int .u64 0, .int .u64 0, .bool true]), K.resAt (rs := [.cell 12 132]) [.agg #[K.iv 5, K.iv th, K.iv 0, .int .u64 0, .int .u64 0, .bool true]] rfl ⟨⟨_, rfl, K.lvN [K.iv 5, K.iv th, K.iv 0, .int .u64 0, .int .u64 0, .bool true] (by kernel_rfl) (by kernel_rfl) (K.cells (K.cl ((hS.blk 2 rfl hg_49).cell rfl) (K.cl ((hS.blk 2 rfl hg_49).cell rfl) (K.cl ((hS.blk 2 rfl hg_49).cell rfl) (K.cl ((hS.blk 2 rfl hg_49).cell rfl) (K.cl ((hS.blk 2 rfl hg_49).cell rfl) (K.cl ((hS.blk 2 rfl hg_49).cell rfl) K.cl0)))))))⟩, trivial⟩, [[g_46, rp, l_39].flatten], ?_, hS.pick [0, 3]⟩
   exact ⟨_, by rw [e]; rfl, rfl, by rw [e]; exact ⟨_, _, _, _, _, _, rfl, hg_47, hrp, x_40, hrnp, hrn18⟩⟩
  ·
   replace hS : K.Sat w0 [rd, rg, rp, g_36, g_2, fr] w := hS
   refine K.q [.bool false, .bool false] (K.z (K.t (K.g (K.q [.bool false, .pointer (some ⟨r_4, 5, none⟩)] ?_))))
   refine K.l (K.OW.gst 3 [.bool false] _ hS hg_37 ?_)
   clear hS; intro w g_50 hg_51 hS
   replace hS : K.Sat w0 [rd, rg, rp, g_50, g_2, fr] w := hS
   refine K.z (K.t (K.s (K.g (K.q [K.pa p, K.pa p, K.pa p, .pointer (some ⟨p, 2, none⟩)] ?_))))
   refine K.d (K.iv M.clock) ((hS.blk 1 rfl hrg).cell rfl) ?_
   refine K.q [K.iv (IntKind.i64.wrap ((M.clock : Int) + (1 : Int))), K.pa p, .pointer (some ⟨p, 2, none⟩)] ?_
   refine K.l (K.OW.gst 1 [K.iv (IntKind.i64.wrap ((M.clock : Int) + (1 : Int)))] _ hS hrg ?_)
   clear hS; intro w g_52 hg_53 hS
   replace hS : K.Sat w0 [rd, g_52, rp, g_50, g_2, fr] w := hS
   refine K.z (K.t (K.s (K.s (K.g (K.q [.bool false, .bool true] (K.z (K.t (K.h (K.g (K.q [K.pa p, K.pa p, K.pa p, .pointer (some ⟨p, 3, none⟩)] ?_))))))))))
   refine K.d (K.iv M.bad) ((hS.blk 1 rfl hg_53).cell rfl) ?_
   refine K.q [K.iv (IntKind.i64.wrap ((M.bad : Int) + (1 : Int))), K.pa p, .pointer (some ⟨p, 3, none⟩)] ?_
   refine K.l (K.OW.gst 1 [K.iv (IntKind.i64.wrap ((M.bad : Int) + (1 : Int)))] _ hS hg_53 ?_)
   clear hS; intro w g_54 hg_55 hS
   replace hS : K.Sat w0 [rd, g_54, rp, g_50, g_2, fr] w := hS
   refine K.z (K.t (K.s (K.g (K.q [K.pa p] ?_))))
   refine K.a (K.QR.ldN [K.iv 5, K.iv th, K.iv 0, .int .u64 0, .int .u64 0, .bool false] rfl rfl (by kernel_rfl) (by kernel_rfl) (K.cells (K.cl ((hS.blk 3 rfl hg_51).cell rfl) (K.cl ((hS.blk 3 rfl hg_51).cell rfl) (K.cl ((hS.blk 3 rfl hg_51).cell rfl) (K.cl ((hS.blk 3 rfl hg_51).cell rfl) (K.cl ((hS.blk 3 rfl hg_51).cell rfl) (K.cl ((hS.blk 3 rfl hg_51).cell rfl) K.cl0)))))))) ?_
   refine K.q [K.pa p, .pointer (some ⟨p, 4, none⟩)] ?_
   refine K.l (K.OW.gst 1 [K.iv 5, K.iv th, K.iv 0, .int .u64 0, .int .u64 0, .bool false] _ hS hg_55 ?_)
   clear hS; intro w g_56 hg_57 hS
   replace hS : K.Sat w0 [rd, g_56, rp, g_50, g_2, fr] w := hS
   refine K.z (K.t (K.s (K.g ?_)))
   refine K.a (K.QR.ldN [K.iv 5, K.iv th, K.iv 0, .int .u64 0, .int .u64 0, .bool false] rfl rfl (by kernel_rfl) (by kernel_rfl) (K.cells (K.cl ((hS.blk 3 rfl hg_51).cell rfl) (K.cl ((hS.blk 3 rfl hg_51).cell rfl) (K.cl ((hS.blk 3 rfl hg_51).cell rfl) (K.cl ((hS.blk 3 rfl hg_51).cell rfl) (K.cl ((hS.blk 3 rfl hg_51).cell rfl) (K.cl ((hS.blk 3 rfl hg_51).cell rfl) K.cl0)))))))) ?_
   refine K.l (K.OW.gst 4 [K.iv 5, K.iv th, K.iv 0, .int .u64 0, .int .u64 0, .bool false] _ hS hg_3 ?_)
   clear hS; intro w g_58 hg_59 hS
   replace hS : K.Sat w0 [rd, g_56, rp, g_50, g_58, fr] w := hS
   refine K.z (K.t (K.r ?_))
   have hd : decide ((0 : Int) ≤ th ∧ th < t) = false := decide_eq_false (by omega)
   replace hS : K.Sat w0 [[g_56, rp, rd].flatten, g_50, g_58, fr] w := (hS.pick [1, 2, 0, 3, 4, 5]).of
   have e : M.accE t th = (M.count (⟨5, th, 0, 0, 0, false⟩ : AccM) false, (⟨5, th, 0, 0, 0, false⟩ : AccM)) := by simp only [MemM.accE, hd]; rfl
   refine ⟨.inr rfl, rfl, (.agg #[K.iv 5, K.iv th, K.iv 0, .int .u64 0, .int .u64 0, .bool false]), K.resAt (rs := [.cell 12 132]) [.agg #[K.iv 5, K.iv th, K.iv 0, .int .u64 0, .int .u64 0, .bool false]] rfl ⟨⟨_, rfl, K.lvN [K.iv 5, K.iv th, K.iv 0, .int .u64 0, .int .u64 0, .bool false] (by kernel_rfl) (by kernel_rfl) (K.cells (K.cl ((hS.blk 2 rfl hg_59).cell rfl) (K.cl ((hS.blk 2 rfl hg_59).cell rfl) (K.cl ((hS.blk 2 rfl hg_59).cell rfl) (K.cl ((hS.blk 2 rfl hg_59).cell rfl) (K.cl ((hS.blk 2 rfl hg_59).cell rfl) (K.cl ((hS.blk 2 rfl hg_59).cell rfl) K.cl0)))))))⟩, trivial⟩, [[g_56, rp, rd].flatten], ?_, hS.pick [0, 3]⟩
   exact ⟨_, by rw [e]; rfl, rfl, by rw [e]; exact ⟨_, _, _, _, _, _, rfl, hg_57, hrp, hrd, hrnp, hrn18⟩⟩
end Go.Proofs.YtbfafebfkdbglaaGreat
