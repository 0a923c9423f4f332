import Derived.Test.YtbfafebfkdbglaaGreatFpm
import Derived.Test.YtbfafebfkdbglaaGreatKi
import Derived.Test.YtbfafebfkdbglaaGreatFlist
/- The memory: its accesses. -/
namespace Go.Proofs.YtbfafebfkdbglaaGreat
open Go.RowKit
set_option linter.unusedVariables false
attribute [local irreducible] K.KW K.RW K.DW K.OW K.QR K.KC
def AccM.fin (a : AccM) (b : Bool) : AccM := { a with done := b }
/-- a memory that is made -/
def MemM.of (D : DevM) (k : Nat) : MemM := ⟨D, List.replicate k 0, 0, 0, acc0⟩
theorem putD {M : MemM} {i w : Int} (h : 0 ≤ i) : M.put i w = { M with dev := M.dev.store i.toNat w } := by unfold MemM.put; rw [if_pos h]
theorem putP {M : MemM} {i w : Int} (h : ¬ 0 ≤ i) : M.put i w = { M with pass := M.pass.set (-1 - i).toNat w } := by unfold MemM.put; rw [if_neg h]
set_option maxHeartbeats 1000000 in
set_option maxRecDepth 100000 in
theorem mCountT_ok (w0 : World) (p q n t : Nat) (M : MemM) (l : K.Cs) (x : MemAt l p q n t M) (a : AccM) :
  K.GC Tryz.prog w0 165 #[K.pa p, .agg #[K.iv a.kind, K.iv a.thread, K.iv a.at_, .int .u64 a.old, .int .u64 a.new, .bool a.done], .bool true] [l] (fun v post => ∃ l', v = .tuple #[] ∧ post = [l'] ∧ MemAt l' p q n t (M.count a true)) := by
 refine K.GC.mk (n := 26) Tryz.func165 rfl rfl [K.pa p, .agg #[K.iv a.kind, K.iv a.thread, K.iv a.at_, .int .u64 a.old, .int .u64 a.new, .bool a.done], .bool true] rfl rfl ?_
 intro fr w hS
 replace hS : K.Sat w0 [l, fr] w := hS
 obtain ⟨mg, mp, md, pa, np, cp, rfl, hmg, hmp, hmd, hnp, hn18⟩ := x
 replace hS : K.Sat w0 [mg, mp, md, fr] w := hS.of
 refine K.s (K.g ?_)
 refine K.l (K.OW.gnew 132 [K.iv a.kind, K.iv a.thread, K.iv a.at_, .int .u64 a.old, .int .u64 a.new, .bool a.done] hS ?_)
 clear hS; intro w r_1 g_2 hg_3 hS
 refine K.z (K.t (K.s (K.g (K.q [K.pa p, K.pa p, .pointer (some ⟨p, 2, none⟩)] ?_))))
 refine K.d (K.iv M.clock) ((hS.blk 1 rfl hmg).cell rfl) ?_
 refine K.q [K.iv (IntKind.i64.wrap ((M.clock : Int) + (1 : Int))), K.pa p, .pointer (some ⟨p, 2, none⟩)] ?_
 refine K.l (K.OW.gst 1 [K.iv (IntKind.i64.wrap ((M.clock : Int) + (1 : Int)))] _ hS hmg ?_)
 clear hS; intro w g_4 hg_5 hS
 replace hS : K.Sat w0 [g_2, g_4, mp, md, fr] w := hS
 refine K.z (K.t (K.s (K.g (K.q [K.pa p] ?_))))
 refine K.a (K.QR.ldN [K.iv a.kind, K.iv a.thread, K.iv a.at_, .int .u64 a.old, .int .u64 a.new, .bool a.done] rfl rfl (by kernel_rfl) (by kernel_rfl) (K.cells (K.cl ((hS.blk 0 rfl hg_3).cell rfl) (K.cl ((hS.blk 0 rfl hg_3).cell rfl) (K.cl ((hS.blk 0 rfl hg_3).cell rfl) (K.cl ((hS.blk 0 rfl hg_3).cell rfl) (K.cl ((hS.blk 0 rfl hg_3).cell rfl) (K.cl ((hS.blk 0 rfl hg_3).cell rfl) K.cl0)))))))) ?_
 refine K.q [K.pa p, .pointer (some ⟨p, 4, none⟩)] ?_
 refine K.l (K.OW.gst 1 [K.iv a.kind, K.iv a.thread, K.iv a.at_, .int .u64 a.old, .int .u64 a.new, .bool a.done] _ hS hg_5 ?_)
 clear hS; intro w g_6 hg_7 hS
 replace hS : K.Sat w0 [g_2, g_6, mp, md, fr] w := hS
 refine K.z (K.t (K.s (K.g (K.q [.bool true, .bool false] (K.z (K.t (K.f (K.k ?_))))))))
 replace hS : K.Sat w0 [[g_6, mp, md].flatten, g_2, fr] w := (hS.pick [1, 2, 3, 0, 4]).of
 refine ⟨.inl rfl, rfl, (.tuple #[]), K.res0 rfl, [[g_6, mp, md].flatten], ?_, hS.pick [0, 2]⟩
 exact ⟨_, rfl, rfl, ⟨_, _, _, _, _, _, rfl, hg_7, hmp, hmd, hnp, hn18⟩⟩
set_option maxHeartbeats 1000000 in
set_option maxRecDepth 100000 in
theorem mCountF_ok (w0 : World) (p q n t : Nat) (M : MemM) (l : K.Cs) (x : MemAt l p q n t M) (a : AccM) :
  K.GC Tryz.prog w0 165 #[K.pa p, .agg #[K.iv a.kind, K.iv a.thread, K.iv a.at_, .int .u64 a.old, .int .u64 a.new, .bool a.done], .bool false] [l] (fun v post => ∃ l', v = .tuple #[] ∧ post = [l'] ∧ MemAt l' p q n t (M.count a false)) := by
 refine K.GC.mk (n := 26) Tryz.func165 rfl rfl [K.pa p, .agg #[K.iv a.kind, K.iv a.thread, K.iv a.at_, .int .u64 a.old, .int .u64 a.new, .bool a.done], .bool false] rfl rfl ?_
 intro fr w hS
 replace hS : K.Sat w0 [l, fr] w := hS
 obtain ⟨mg, mp, md, pa, np, cp, rfl, hmg, hmp, hmd, hnp, hn18⟩ := x
 replace hS : K.Sat w0 [mg, mp, md, fr] w := hS.of
 refine K.s (K.g ?_)
 refine K.l (K.OW.gnew 132 [K.iv a.kind, K.iv a.thread, K.iv a.at_, .int .u64 a.old, .int .u64 a.new, .bool a.done] hS ?_)
 clear hS; intro w r_1 g_2 hg_3 hS
 refine K.z (K.t (K.s (K.g (K.q [K.pa p, K.pa p, .pointer (some ⟨p, 2, none⟩)] ?_))))
 refine K.d (K.iv M.clock) ((hS.blk 1 rfl hmg).cell rfl) ?_
 refine K.q [K.iv (IntKind.i64.wrap ((M.clock : Int) + (1 : Int))), K.pa p, .pointer (some ⟨p, 2, none⟩)] ?_
 refine K.l (K.OW.gst 1 [K.iv (IntKind.i64.wrap ((M.clock : Int) + (1 : Int)))] _ hS hmg ?_)
 clear hS; intro w g_4 hg_5 hS
 replace hS : K.Sat w0 [g_2, g_4, mp, md, fr] w := hS
 refine K.z (K.t (K.s (K.g (K.q [K.pa p] ?_))))
 refine K.a (K.QR.ldN [K.iv a.kind, K.iv a.thread, K.iv a.at_, .int .u64 a.old, .int .u64 a.new, .bool a.done] rfl rfl (by kernel_rfl) (by kernel_rfl) (K.cells (K.cl ((hS.blk 0 rfl hg_3).cell rfl) (K.cl ((hS.blk 0 rfl hg_3).cell rfl) (K.cl ((hS.blk 0 rfl hg_3).cell rfl) (K.cl ((hS.blk 0 rfl hg_3).cell rfl) (K.cl ((hS.blk 0 rfl hg_3).cell rfl) (K.cl ((hS.blk 0 rfl hg_3).cell rfl) K.cl0)))))))) ?_
 refine K.q [K.pa p, .pointer (some ⟨p, 4, none⟩)] ?_
 refine K.l (K.OW.gst 1 [K.iv a.kind, K.iv a.thread, K.iv a.at_, .int .u64 a.old, .int .u64 a.new, .bool a.done] _ hS hg_5 ?_)
 clear hS; intro w g_6 hg_7 hS
 replace hS : K.Sat w0 [g_2, g_6, mp, md, fr] w := hS
 refine K.z (K.t (K.s (K.g (K.q [.bool false, .bool true] (K.z (K.t (K.h (K.g (K.q [K.pa p, K.pa p, .pointer (some ⟨p, 3, none⟩)] ?_)))))))))
 refine K.d (K.iv M.bad) ((hS.blk 1 rfl hg_7).cell rfl) ?_
 refine K.q [K.iv (IntKind.i64.wrap ((M.bad : Int) + (1 : Int))), K.pa p, .pointer (some ⟨p, 3, none⟩)] ?_
 refine K.l (K.OW.gst 1 [K.iv (IntKind.i64.wrap ((M.bad : Int) + (1 : Int)))] _ hS hg_7 ?_)
 clear hS; intro w g_8 hg_9 hS
 replace hS : K.Sat w0 [g_2, g_8, mp, md, fr] w := hS
 refine K.z ?_
 replace hS : K.Sat w0 [[g_8, mp, md].flatten, g_2, fr] w := (hS.pick [1, 2, 3, 0, 4]).of
 refine ⟨.inl rfl, rfl, (.tuple #[]), K.res0 rfl, [[g_8, mp, md].flatten], ?_, hS.pick [0, 2]⟩
 exact ⟨_, rfl, rfl, ⟨_, _, _, _, _, _, rfl, hg_9, hmp, hmd, hnp, hn18⟩⟩
set_option maxHeartbeats 1000000 in
set_option maxRecDepth 100000 in
theorem mPut_ok (w0 : World) (p q n t : Nat) (M : MemM) (l : K.Cs) (x : MemAt l p q n t M) (i : Int) (hi : isInt i) (wo : Int) (y : Int) (hp : M.peek n i = some y) :
  K.GC Tryz.prog w0 164 #[K.pa p, K.iv i, .int .u64 wo] [l] (fun v post => ∃ l', v = .tuple #[] ∧ post = [l'] ∧ MemAt l' p q n t (M.put i wo)) := by
 have hv := peek_some hp
 refine K.GC.mk (n := 30) Tryz.func164 rfl rfl [K.pa p, K.iv i, .int .u64 wo] rfl rfl ?_
 intro fr w hS
 replace hS : K.Sat w0 [l, fr] w := hS
 refine K.s (K.s (K.g (K.q [K.iv i] ?_)))
 by_cases h_1 : (i : Int) ≥ (0 : Int)
 ·
  refine K.y ((i : Int) ≥ (0 : Int)) h_1 ?_
  refine K.z (K.t (K.h (K.s ?_)))
  obtain ⟨mg, mp, md, pa, np, cp, rfl, hmg, hmp, hmd, hnp, hn18⟩ := x
  replace hS : K.Sat w0 [mg, mp, md, fr] w := hS.of
  refine K.g (K.q [K.pa p, K.pa p, K.pa p] ?_)
  refine K.d (K.pa q) ((hS.blk 0 rfl hmg).cell rfl) ?_
  refine K.q [K.iv i, .int .u64 wo] ?_
  refine K.l (K.OW.gcall hS [2] [0, 1, 3] [K.pa q, K.iv i, .int .u64 wo] (dvStore_ok _ _ _ _ _ _ hmd i (by omega) wo) ?_)
  clear hS; rintro _ _ w (⟨rfl, h_2, l_3, rfl, x_4⟩ | ⟨rfl, h_5, rfl⟩) hS
  ·
   replace hS : K.Sat w0 [l_3, mg, mp, fr] w := hS
   refine K.z (K.t (K.r (K.u ?_)))
   replace hS : K.Sat w0 [[mg, mp, l_3].flatten, fr] w := (hS.pick [1, 2, 0, 3]).of
   refine ⟨.inr rfl, rfl, (.tuple #[]), K.res0 rfl, [[mg, mp, l_3].flatten], ?_, hS.pick [0, 1]⟩
   exact ⟨_, rfl, rfl, by rw [putD (by omega)]; exact ⟨_, _, _, _, _, _, rfl, hmg, hmp, x_4, hnp, hn18⟩⟩
  ·
   exfalso; omega
 ·
  refine K.x ((i : Int) ≥ (0 : Int)) h_1 ?_
  refine K.z (K.t (K.f (K.k (K.t (K.s (K.g (K.q [K.pa p, K.iv i] ?_)))))))
  refine K.l (K.OW.gcall hS [0] [1] [K.pa p, K.iv i] (mPass_ok _ _ _ _ _ _ _ x i (by omega)) ?_)
  clear hS; rintro _ _ w ⟨rfl, (⟨rfl, h_6, h2_7⟩ | ⟨rfl, h_8⟩)⟩ hS
  ·
   replace hS : K.Sat w0 [l, fr] w := hS
   refine K.q [.tuple #[K.iv (-1 - i), .bool true], K.iv (-1 - i), .bool true, K.iv (-1 - i), .bool true] (K.z (K.t ?_))
   obtain ⟨mg, mp, md, pa, np, cp, rfl, hmg, hmp, hmd, hnp, hn18⟩ := x
   replace hS : K.Sat w0 [mg, mp, md, fr] w := hS.of
   refine K.g (K.q [K.pa p, K.pa p, .pointer (some ⟨p, 1, none⟩)] ?_)
   refine K.d (.slice pa np cp) ((hS.blk 0 rfl hmg).cell rfl) ?_
   refine K.q [K.iv (-1 - i), .int .u64 wo] ?_
   obtain ⟨b_9, rfl⟩ := hmp.some_ (by have := hmp.le; omega)
   refine K.a (K.QR.ix ((-1 - i).toNat) 1 rfl rfl rfl Tryz.underlying78 (by kernel_rfl) (by omega) (by first | (simp; done) | omega | (simp; omega))) ?_
   refine K.l (K.OW.grst 1 ((-1 - i).toNat) [.int .u64 wo] (((M.pass.set ((-1 - i).toNat) wo)).flatMap cU64) hS hmp ?_ (by show _ + 1 ≤ _; omega) (K.set1 (c := cU64) M.pass ((-1 - i).toNat) wo (by have := hnp; omega)))
   clear hS; intro w l_11 o_12 hS
   have ln_13 : ((M.pass.set ((-1 - i).toNat) wo)).length = _ := (List.length_set).trans hnp
   replace hS : K.Sat w0 [mg, l_11, md, fr] w := hS
   refine K.z ?_
   replace hS : K.Sat w0 [[mg, l_11, md].flatten, fr] w := (hS.pick [0, 1, 2, 3]).of
   refine ⟨.inl rfl, rfl, (.tuple #[]), K.res0 rfl, [[mg, l_11, md].flatten], ?_, hS.pick [0, 1]⟩
   exact ⟨_, rfl, rfl, by rw [putP (by omega)]; exact ⟨_, _, _, _, _, _, rfl, hmg, o_12, hmd, ln_13, hn18⟩⟩
  ·
   exfalso; omega
set_option maxHeartbeats 1000000 in
set_option maxRecDepth 100000 in
theorem mLoad1_ok (w0 : World) (y : Int) :
  K.GC Tryz.prog w0 128 #[.int .u64 y] [] (fun v post => v = .tuple #[.int .u64 0, .bool false] ∧ post = []) := by
 refine K.GC.mk (n := 4) Tryz.func128 rfl rfl [.int .u64 y] rfl rfl ?_
 intro fr w hS
 replace hS : K.Sat w0 [fr] w := hS
 refine K.s (K.g (K.q [.int .u64 0, .bool false] (K.z (K.t (K.s (K.g (K.q [.int .u64 0, .bool false] (K.z (K.t (K.r ?_))))))))))
 refine ⟨.inr rfl, rfl, (.tuple #[.int .u64 0, .bool false]), K.res2 rfl rfl rfl, [], ?_, hS.pick [0]⟩
 exact ⟨rfl, rfl⟩
set_option maxHeartbeats 1000000 in
set_option maxRecDepth 100000 in
theorem mStore1_ok (w0 : World) (y wo : Int) (b : Nat) (gw : K.Cs) (hgw : gw = [K.pt b 57 [.int .u64 wo]]) :
  K.GC Tryz.prog w0 118 #[.int .u64 y, K.pa b] [gw] (fun v post => v = .tuple #[.int .u64 wo, .bool true] ∧ post = [gw]) := by
 refine K.GC.mk (n := 6) Tryz.func118 rfl rfl [.int .u64 y, K.pa b] rfl rfl ?_
 intro fr w hS
 replace hS : K.Sat w0 [gw, fr] w := hS
 refine K.s (K.g (K.q [.int .u64 0, .bool false] (K.z (K.t (K.s (K.g ?_))))))
 refine K.d (.int .u64 wo) ((hS.blk 0 rfl hgw).cell rfl) ?_
 refine K.q [.int .u64 wo, .bool true] (K.z (K.t (K.r ?_)))
 refine ⟨.inr rfl, rfl, (.tuple #[.int .u64 wo, .bool true]), K.res2 rfl rfl rfl, [gw], ?_, hS.pick [0, 1]⟩
 exact ⟨rfl, rfl⟩
set_option maxHeartbeats 1000000 in
set_option maxRecDepth 100000 in
theorem mSwap1_ok (w0 : World) (y wo old : Int) (b c : Nat) (gw go : K.Cs) (hgw : gw = [K.pt b 57 [.int .u64 wo]]) (hgo : go = [K.pt c 57 [.int .u64 old]]) :
  K.GC Tryz.prog w0 129 #[.int .u64 y, K.pa b, K.pa c] [gw, go] (fun v post => post = [gw, go] ∧ ((v = .tuple #[.int .u64 wo, .bool true] ∧ y = old) ∨ (v = .tuple #[.int .u64 wo, .bool false] ∧ ¬ y = old))) := by
 refine K.GC.mk (n := 10) Tryz.func129 rfl rfl [.int .u64 y, K.pa b, K.pa c] rfl rfl ?_
 intro fr w hS
 replace hS : K.Sat w0 [gw, go, fr] w := hS
 refine K.s (K.g (K.q [.int .u64 0, .bool false] (K.z (K.t (K.s ?_)))))
 refine K.KW.gdrawn [0, 1] hS (by kernel_rfl) ?_
 clear hS; intro w hS
 refine K.o_ 0 rfl (.int .u64 wo) (fun w hS => ((hS.blk 0 rfl hgw).cell rfl)) (hS.pick [0, 1]) ?_
 refine K.p 1 rfl (.int .u64 y) (hS.pick [0, 1]) ?_
 refine K.o_ 2 rfl (.int .u64 old) (fun w hS => ((hS.blk 1 rfl hgo).cell rfl)) (hS.pick [0, 1]) ?_
 by_cases h_1 : (y : Int) = (old : Int)
 ·
  refine K.m 3 rfl (fun w hS => K.QR.nice (v := .bool ((y : Int) == (old : Int))) (by kernel_rfl) (congrArg Value.bool (beq_iff_eq.2 h_1))) (hS.pick [0, 1]) ?_
  refine K.b 4 rfl (.int .u64 wo) (hS.pick [0, 1]) ?_
  refine K.b 5 rfl (.bool true) (hS.pick [0, 1]) ?_
  refine K.DW.done (by kernel_rfl) ?_
  refine K.t (K.r ?_)
  refine ⟨.inr rfl, rfl, (.tuple #[.int .u64 wo, .bool true]), K.res2 rfl rfl rfl, [gw, go], ?_, hS.pick [0, 1, 2]⟩
  exact ⟨rfl, .inl ⟨rfl, by omega⟩⟩
 ·
  refine K.m 3 rfl (fun w hS => K.QR.nice (v := .bool ((y : Int) == (old : Int))) (by kernel_rfl) (congrArg Value.bool (beq_eq_false_iff_ne.2 h_1))) (hS.pick [0, 1]) ?_
  refine K.b 4 rfl (.int .u64 wo) (hS.pick [0, 1]) ?_
  refine K.b 5 rfl (.bool false) (hS.pick [0, 1]) ?_
  refine K.DW.done (by kernel_rfl) ?_
  refine K.t (K.r ?_)
  refine ⟨.inr rfl, rfl, (.tuple #[.int .u64 wo, .bool false]), K.res2 rfl rfl rfl, [gw, go], ?_, hS.pick [0, 1, 2]⟩
  exact ⟨rfl, .inr ⟨rfl, by omega⟩⟩
set_option maxHeartbeats 1000000 in
set_option maxRecDepth 100000 in
theorem mWordL_ok (w0 : World) (p q n t : Nat) (M : MemM) (l : K.Cs) (x : MemAt l p q n t M) (th i : Int) (hi : isInt i) :
  K.GC Tryz.prog w0 117 #[K.pa p, .agg #[K.iv 1, K.iv th, K.iv i, .int .u64 0, .int .u64 0, .bool false], .func (.func 128) [].toArray [].toArray] [l] (fun v post => ∃ l', v = .agg (cAcc (M.accL n th i).2).toArray ∧ post = [l'] ∧ MemAt l' p q n t (M.accL n th i).1) := by
 refine K.GC.mk (n := 45) Tryz.func117 rfl rfl [K.pa p, .agg #[K.iv 1, K.iv th, K.iv i, .int .u64 0, .int .u64 0, .bool false], .func (.func 128) [].toArray [].toArray] rfl rfl ?_
 intro fr w hS
 replace hS : K.Sat w0 [l, fr] w := hS
 refine K.s (K.g ?_)
 refine K.l (K.OW.gnew 132 [K.iv 1, K.iv th, K.iv i, .int .u64 0, .int .u64 0, .bool false] hS ?_)
 clear hS; intro w r_1 g_2 hg_3 hS
 refine K.l (K.OW.gnew 132 [K.iv 0, K.iv 0, K.iv 0, .int .u64 0, .int .u64 0, .bool false] hS ?_)
 clear hS; intro w r_4 g_5 hg_6 hS
 refine K.z (K.t (K.s (K.g (K.q [K.pa p, .pointer (some ⟨r_1, 2, none⟩)] ?_))))
 refine K.d (K.iv i) ((hS.blk 1 rfl hg_3).cell rfl) ?_
 refine K.l (K.OW.gcall hS [2] [0, 1, 3] [K.pa p, K.iv i] (mPeek_ok _ _ _ _ _ _ _ x i (by omega)) ?_)
 clear hS; rintro _ _ w ⟨rfl, (⟨y_7, rfl, h_8⟩ | ⟨rfl, h_9⟩)⟩ hS
 ·
  replace hS : K.Sat w0 [l, g_5, g_2, fr] w := hS
  refine K.q [.tuple #[.int .u64 y_7, .bool true], .int .u64 y_7, .bool true, .int .u64 y_7, .bool true] (K.z (K.t (K.s (K.s (K.g (K.q [.bool true] (K.z (K.t (K.h (K.s (K.g (K.q [.int .u64 y_7, .pointer (some ⟨r_1, 3, none⟩)] ?_))))))))))))
  refine K.l (K.OW.gst 2 [.int .u64 y_7] _ hS hg_3 ?_)
  clear hS; intro w g_10 hg_11 hS
  replace hS : K.Sat w0 [l, g_5, g_10, fr] w := hS
  refine K.z (K.t (K.s (K.g (K.q [.func (.func 128) [].toArray [].toArray, .int .u64 y_7] ?_))))
  refine K.l (K.OW.gcallw hS [] [0, 1, 2, 3] [.int .u64 y_7] (mLoad1_ok _ y_7) ?_)
  clear hS; rintro _ _ w ⟨rfl, rfl⟩ hS
  replace hS : K.Sat w0 [l, g_5, g_10, fr] w := hS
  refine K.q [.tuple #[.int .u64 0, .bool false], .int .u64 0, .bool false, .int .u64 0, .bool false] (K.z (K.t (K.s (K.s (K.g (K.q [.bool false] (K.z (K.t (K.f (K.k (K.t (K.g (K.q [.bool false, .bool false, K.pa r_1] ?_)))))))))))))
  refine K.d (K.iv 1) ((hS.blk 2 rfl hg_11).cell rfl) ?_
  refine K.q [.bool true, .bool true, .pointer (some ⟨r_1, 5, none⟩)] ?_
  refine K.l (K.OW.gst 2 [.bool true] _ hS hg_11 ?_)
  clear hS; intro w g_12 hg_13 hS
  replace hS : K.Sat w0 [l, g_5, g_12, fr] w := hS
  refine K.z (K.t (K.s (K.g (K.q [K.pa p] ?_))))
  refine K.a (K.QR.ldN [K.iv 1, K.iv th, K.iv i, .int .u64 y_7, .int .u64 0, .bool true] rfl rfl (by kernel_rfl) (by kernel_rfl) (K.cells (K.cl ((hS.blk 2 rfl hg_13).cell rfl) (K.cl ((hS.blk 2 rfl hg_13).cell rfl) (K.cl ((hS.blk 2 rfl hg_13).cell rfl) (K.cl ((hS.blk 2 rfl hg_13).cell rfl) (K.cl ((hS.blk 2 rfl hg_13).cell rfl) (K.cl ((hS.blk 2 rfl hg_13).cell rfl) K.cl0)))))))) ?_
  refine K.q [.bool true] ?_
  refine K.l (K.OW.gcall hS [0] [1, 2, 3] [K.pa p, .agg #[K.iv 1, K.iv th, K.iv i, .int .u64 y_7, .int .u64 0, .bool true], .bool true] (mCountT_ok _ _ _ _ _ _ _ x (⟨1, th, i, y_7, 0, true⟩ : AccM)) ?_)
  clear hS; rintro _ _ w ⟨l_14, rfl, rfl, x_15⟩ hS
  replace hS : K.Sat w0 [l_14, g_5, g_12, fr] w := hS
  refine K.z (K.t (K.s (K.g ?_)))
  refine K.a (K.QR.ldN [K.iv 1, K.iv th, K.iv i, .int .u64 y_7, .int .u64 0, .bool true] rfl rfl (by kernel_rfl) (by kernel_rfl) (K.cells (K.cl ((hS.blk 2 rfl hg_13).cell rfl) (K.cl ((hS.blk 2 rfl hg_13).cell rfl) (K.cl ((hS.blk 2 rfl hg_13).cell rfl) (K.cl ((hS.blk 2 rfl hg_13).cell rfl) (K.cl ((hS.blk 2 rfl hg_13).cell rfl) (K.cl ((hS.blk 2 rfl hg_13).cell rfl) K.cl0)))))))) ?_
  refine K.l (K.OW.gst 1 [K.iv 1, K.iv th, K.iv i, .int .u64 y_7, .int .u64 0, .bool true] _ hS hg_6 ?_)
  clear hS; intro w g_16 hg_17 hS
  replace hS : K.Sat w0 [l_14, g_16, g_12, fr] w := hS
  refine K.z (K.t (K.r ?_))
  have e : M.accL n th i = ((M.count (⟨1, th, i, y_7, 0, true⟩ : AccM) true), (⟨1, th, i, y_7, 0, true⟩ : AccM)) := by simp [MemM.accL, h_8]
  refine ⟨.inr rfl, rfl, (.agg #[K.iv 1, K.iv th, K.iv i, .int .u64 y_7, .int .u64 0, .bool true]), K.resAt (rs := [.cell 6 132]) [.agg #[K.iv 1, K.iv th, K.iv i, .int .u64 y_7, .int .u64 0, .bool true]] rfl ⟨⟨_, rfl, K.lvN [K.iv 1, K.iv th, K.iv i, .int .u64 y_7, .int .u64 0, .bool true] (by kernel_rfl) (by kernel_rfl) (K.cells (K.cl ((hS.blk 1 rfl hg_17).cell rfl) (K.cl ((hS.blk 1 rfl hg_17).cell rfl) (K.cl ((hS.blk 1 rfl hg_17).cell rfl) (K.cl ((hS.blk 1 rfl hg_17).cell rfl) (K.cl ((hS.blk 1 rfl hg_17).cell rfl) (K.cl ((hS.blk 1 rfl hg_17).cell rfl) K.cl0)))))))⟩, trivial⟩, [l_14], ?_, hS.pick [0, 3]⟩
  exact ⟨_, by rw [e]; rfl, rfl, by rw [e]; exact x_15⟩
 ·
  replace hS : K.Sat w0 [l, g_5, g_2, fr] w := hS
  refine K.q [.tuple #[.int .u64 0, .bool false], .int .u64 0, .bool false, .int .u64 0, .bool false] (K.z (K.t (K.s (K.s (K.g (K.q [.bool false] (K.z (K.t (K.f (K.k (K.t (K.s (K.g (K.q [K.pa p] ?_))))))))))))))
  refine K.a (K.QR.ldN [K.iv 1, K.iv th, K.iv i, .int .u64 0, .int .u64 0, .bool false] rfl rfl (by kernel_rfl) (by kernel_rfl) (K.cells (K.cl ((hS.blk 2 rfl hg_3).cell rfl) (K.cl ((hS.blk 2 rfl hg_3).cell rfl) (K.cl ((hS.blk 2 rfl hg_3).cell rfl) (K.cl ((hS.blk 2 rfl hg_3).cell rfl) (K.cl ((hS.blk 2 rfl hg_3).cell rfl) (K.cl ((hS.blk 2 rfl hg_3).cell rfl) K.cl0)))))))) ?_
  refine K.q [.bool false] ?_
  refine K.l (K.OW.gcall hS [0] [1, 2, 3] [K.pa p, .agg #[K.iv 1, K.iv th, K.iv i, .int .u64 0, .int .u64 0, .bool false], .bool false] (mCountF_ok _ _ _ _ _ _ _ x (⟨1, th, i, 0, 0, false⟩ : AccM)) ?_)
  clear hS; rintro _ _ w ⟨l_18, rfl, rfl, x_19⟩ hS
  replace hS : K.Sat w0 [l_18, g_5, g_2, fr] w := hS
  refine K.z (K.t (K.s (K.g ?_)))
  refine K.a (K.QR.ldN [K.iv 1, K.iv th, K.iv i, .int .u64 0, .int .u64 0, .bool false] rfl rfl (by kernel_rfl) (by kernel_rfl) (K.cells (K.cl ((hS.blk 2 rfl hg_3).cell rfl) (K.cl ((hS.blk 2 rfl hg_3).cell rfl) (K.cl ((hS.blk 2 rfl hg_3).cell rfl) (K.cl ((hS.blk 2 rfl hg_3).cell rfl) (K.cl ((hS.blk 2 rfl hg_3).cell rfl) (K.cl ((hS.blk 2 rfl hg_3).cell rfl) K.cl0)))))))) ?_
  refine K.l (K.OW.gst 1 [K.iv 1, K.iv th, K.iv i, .int .u64 0, .int .u64 0, .bool false] _ hS hg_6 ?_)
  clear hS; intro w g_20 hg_21 hS
  replace hS : K.Sat w0 [l_18, g_20, g_2, fr] w := hS
  refine K.z (K.t (K.r ?_))
  have e : M.accL n th i = ((M.count (⟨1, th, i, 0, 0, false⟩ : AccM) false), (⟨1, th, i, 0, 0, false⟩ : AccM)) := by simp [MemM.accL, h_9]
  refine ⟨.inr rfl, rfl, (.agg #[K.iv 1, K.iv th, K.iv i, .int .u64 0, .int .u64 0, .bool false]), K.resAt (rs := [.cell 6 132]) [.agg #[K.iv 1, K.iv th, K.iv i, .int .u64 0, .int .u64 0, .bool false]] rfl ⟨⟨_, rfl, K.lvN [K.iv 1, K.iv th, K.iv i, .int .u64 0, .int .u64 0, .bool false] (by kernel_rfl) (by kernel_rfl) (K.cells (K.cl ((hS.blk 1 rfl hg_21).cell rfl) (K.cl ((hS.blk 1 rfl hg_21).cell rfl) (K.cl ((hS.blk 1 rfl hg_21).cell rfl) (K.cl ((hS.blk 1 rfl hg_21).cell rfl) (K.cl ((hS.blk 1 rfl hg_21).cell rfl) (K.cl ((hS.blk 1 rfl hg_21).cell rfl) K.cl0)))))))⟩, trivial⟩, [l_18], ?_, hS.pick [0, 3]⟩
  exact ⟨_, by rw [e]; rfl, rfl, by rw [e]; exact x_19⟩
set_option maxHeartbeats 1000000 in
set_option maxRecDepth 100000 in
theorem mWordS_ok (w0 : World) (p q n t : Nat) (M : MemM) (l : K.Cs) (x : MemAt l p q n t M) (th i : Int) (hi : isInt i) (wo : Int) (b : Nat) (gw : K.Cs) (hgw : gw = [K.pt b 57 [.int .u64 wo]]) :
  K.GC Tryz.prog w0 117 #[K.pa p, .agg #[K.iv 2, K.iv th, K.iv i, .int .u64 0, .int .u64 wo, .bool false], .func (.func 118) [].toArray [K.pa b].toArray] [l, gw] (fun v post => ∃ l', v = .agg (cAcc (M.accS n th i wo).2).toArray ∧ post = [l', gw] ∧ MemAt l' p q n t (M.accS n th i wo).1) := by
 refine K.GC.mk (n := 45) Tryz.func117 rfl rfl [K.pa p, .agg #[K.iv 2, K.iv th, K.iv i, .int .u64 0, .int .u64 wo, .bool false], .func (.func 118) [].toArray [K.pa b].toArray] rfl rfl ?_
 intro fr w hS
 replace hS : K.Sat w0 [l, gw, fr] w := hS
 refine K.s (K.g ?_)
 refine K.l (K.OW.gnew 132 [K.iv 2, K.iv th, K.iv i, .int .u64 0, .int .u64 wo, .bool false] hS ?_)
 clear hS; intro w r_1 g_2 hg_3 hS
 refine K.l (K.OW.gnew 132 [K.iv 0, K.iv 0, K.iv 0, .int .u64 0, .int .u64 0, .bool false] hS ?_)
 clear hS; intro w r_4 g_5 hg_6 hS
 refine K.z (K.t (K.s (K.g (K.q [K.pa p, .pointer (some ⟨r_1, 2, none⟩)] ?_))))
 refine K.d (K.iv i) ((hS.blk 1 rfl hg_3).cell rfl) ?_
 refine K.l (K.OW.gcall hS [2] [0, 1, 3, 4] [K.pa p, K.iv i] (mPeek_ok _ _ _ _ _ _ _ x i (by omega)) ?_)
 clear hS; rintro _ _ w ⟨rfl, (⟨y_7, rfl, h_8⟩ | ⟨rfl, h_9⟩)⟩ hS
 ·
  replace hS : K.Sat w0 [l, g_5, g_2, gw, fr] w := hS
  refine K.q [.tuple #[.int .u64 y_7, .bool true], .int .u64 y_7, .bool true, .int .u64 y_7, .bool true] (K.z (K.t (K.s (K.s (K.g (K.q [.bool true] (K.z (K.t (K.h (K.s (K.g (K.q [.int .u64 y_7, .pointer (some ⟨r_1, 3, none⟩)] ?_))))))))))))
  refine K.l (K.OW.gst 2 [.int .u64 y_7] _ hS hg_3 ?_)
  clear hS; intro w g_10 hg_11 hS
  replace hS : K.Sat w0 [l, g_5, g_10, gw, fr] w := hS
  refine K.z (K.t (K.s (K.g (K.q [.func (.func 118) [].toArray [K.pa b].toArray, .int .u64 y_7] ?_))))
  refine K.l (K.OW.gcallw hS [3] [0, 1, 2, 4] [.int .u64 y_7, K.pa b] (mStore1_ok _ y_7 _ _ _ hgw) ?_)
  clear hS; rintro _ _ w ⟨rfl, rfl⟩ hS
  replace hS : K.Sat w0 [gw, l, g_5, g_10, fr] w := hS
  refine K.q [.tuple #[.int .u64 wo, .bool true], .int .u64 wo, .bool true, .int .u64 wo, .bool true] (K.z (K.t (K.s (K.s (K.g (K.q [.bool true] (K.z (K.t (K.h (K.g (K.q [K.pa p, .pointer (some ⟨r_1, 2, none⟩)] ?_)))))))))))
  refine K.d (K.iv i) ((hS.blk 3 rfl hg_11).cell rfl) ?_
  refine K.q [.int .u64 wo] ?_
  refine K.l (K.OW.gcall hS [1] [0, 2, 3, 4] [K.pa p, K.iv i, .int .u64 wo] (mPut_ok _ _ _ _ _ _ _ x i (by omega) wo _ h_8) ?_)
  clear hS; rintro _ _ w ⟨l_12, rfl, rfl, x_13⟩ hS
  replace hS : K.Sat w0 [l_12, gw, g_5, g_10, fr] w := hS
  refine K.z (K.t (K.g (K.q [.bool true, .bool true] (K.n_ (K.n_ (K.n_ (K.q [.bool true, .pointer (some ⟨r_1, 5, none⟩)] ?_)))))))
  refine K.l (K.OW.gst 3 [.bool true] _ hS hg_11 ?_)
  clear hS; intro w g_14 hg_15 hS
  replace hS : K.Sat w0 [l_12, gw, g_5, g_14, fr] w := hS
  refine K.z (K.t (K.s (K.g (K.q [K.pa p] ?_))))
  refine K.a (K.QR.ldN [K.iv 2, K.iv th, K.iv i, .int .u64 y_7, .int .u64 wo, .bool true] rfl rfl (by kernel_rfl) (by kernel_rfl) (K.cells (K.cl ((hS.blk 3 rfl hg_15).cell rfl) (K.cl ((hS.blk 3 rfl hg_15).cell rfl) (K.cl ((hS.blk 3 rfl hg_15).cell rfl) (K.cl ((hS.blk 3 rfl hg_15).cell rfl) (K.cl ((hS.blk 3 rfl hg_15).cell rfl) (K.cl ((hS.blk 3 rfl hg_15).cell rfl) K.cl0)))))))) ?_
  refine K.q [.bool true] ?_
  refine K.l (K.OW.gcall hS [0] [1, 2, 3, 4] [K.pa p, .agg #[K.iv 2, K.iv th, K.iv i, .int .u64 y_7, .int .u64 wo, .bool true], .bool true] (mCountT_ok _ _ _ _ _ _ _ x_13 (⟨2, th, i, y_7, wo, true⟩ : AccM)) ?_)
  clear hS; rintro _ _ w ⟨l_16, rfl, rfl, x_17⟩ hS
  replace hS : K.Sat w0 [l_16, gw, g_5, g_14, fr] w := hS
  refine K.z (K.t (K.s (K.g ?_)))
  refine K.a (K.QR.ldN [K.iv 2, K.iv th, K.iv i, .int .u64 y_7, .int .u64 wo, .bool true] rfl rfl (by kernel_rfl) (by kernel_rfl) (K.cells (K.cl ((hS.blk 3 rfl hg_15).cell rfl) (K.cl ((hS.blk 3 rfl hg_15).cell rfl) (K.cl ((hS.blk 3 rfl hg_15).cell rfl) (K.cl ((hS.blk 3 rfl hg_15).cell rfl) (K.cl ((hS.blk 3 rfl hg_15).cell rfl) (K.cl ((hS.blk 3 rfl hg_15).cell rfl) K.cl0)))))))) ?_
  refine K.l (K.OW.gst 2 [K.iv 2, K.iv th, K.iv i, .int .u64 y_7, .int .u64 wo, .bool true] _ hS hg_6 ?_)
  clear hS; intro w g_18 hg_19 hS
  replace hS : K.Sat w0 [l_16, gw, g_18, g_14, fr] w := hS
  refine K.z (K.t (K.r ?_))
  have e : M.accS n th i wo = (((M.put i wo).count (⟨2, th, i, y_7, wo, true⟩ : AccM) true), (⟨2, th, i, y_7, wo, true⟩ : AccM)) := by simp [MemM.accS, h_8]
  refine ⟨.inr rfl, rfl, (.agg #[K.iv 2, K.iv th, K.iv i, .int .u64 y_7, .int .u64 wo, .bool true]), K.resAt (rs := [.cell 6 132]) [.agg #[K.iv 2, K.iv th, K.iv i, .int .u64 y_7, .int .u64 wo, .bool true]] rfl ⟨⟨_, rfl, K.lvN [K.iv 2, K.iv th, K.iv i, .int .u64 y_7, .int .u64 wo, .bool true] (by kernel_rfl) (by kernel_rfl) (K.cells (K.cl ((hS.blk 2 rfl hg_19).cell rfl) (K.cl ((hS.blk 2 rfl hg_19).cell rfl) (K.cl ((hS.blk 2 rfl hg_19).cell rfl) (K.cl ((hS.blk 2 rfl hg_19).cell rfl) (K.cl ((hS.blk 2 rfl hg_19).cell rfl) (K.cl ((hS.blk 2 rfl hg_19).cell rfl) K.cl0)))))))⟩, trivial⟩, [l_16, gw], ?_, hS.pick [0, 1, 4]⟩
  exact ⟨_, by rw [e]; rfl, rfl, by rw [e]; exact x_17⟩
 ·
  replace hS : K.Sat w0 [l, g_5, g_2, gw, fr] w := hS
  refine K.q [.tuple #[.int .u64 0, .bool false], .int .u64 0, .bool false, .int .u64 0, .bool false] (K.z (K.t (K.s (K.s (K.g (K.q [.bool false] (K.z (K.t (K.f (K.k (K.t (K.s (K.g (K.q [K.pa p] ?_))))))))))))))
  refine K.a (K.QR.ldN [K.iv 2, K.iv th, K.iv i, .int .u64 0, .int .u64 wo, .bool false] rfl rfl (by kernel_rfl) (by kernel_rfl) (K.cells (K.cl ((hS.blk 2 rfl hg_3).cell rfl) (K.cl ((hS.blk 2 rfl hg_3).cell rfl) (K.cl ((hS.blk 2 rfl hg_3).cell rfl) (K.cl ((hS.blk 2 rfl hg_3).cell rfl) (K.cl ((hS.blk 2 rfl hg_3).cell rfl) (K.cl ((hS.blk 2 rfl hg_3).cell rfl) K.cl0)))))))) ?_
  refine K.q [.bool false] ?_
  refine K.l (K.OW.gcall hS [0] [1, 2, 3, 4] [K.pa p, .agg #[K.iv 2, K.iv th, K.iv i, .int .u64 0, .int .u64 wo, .bool false], .bool false] (mCountF_ok _ _ _ _ _ _ _ x (⟨2, th, i, 0, wo, false⟩ : AccM)) ?_)
  clear hS; rintro _ _ w ⟨l_20, rfl, rfl, x_21⟩ hS
  replace hS : K.Sat w0 [l_20, g_5, g_2, gw, fr] w := hS
  refine K.z (K.t (K.s (K.g ?_)))
  refine K.a (K.QR.ldN [K.iv 2, K.iv th, K.iv i, .int .u64 0, .int .u64 wo, .bool false] rfl rfl (by kernel_rfl) (by kernel_rfl) (K.cells (K.cl ((hS.blk 2 rfl hg_3).cell rfl) (K.cl ((hS.blk 2 rfl hg_3).cell rfl) (K.cl ((hS.blk 2 rfl hg_3).cell rfl) (K.cl ((hS.blk 2 rfl hg_3).cell rfl) (K.cl ((hS.blk 2 rfl hg_3).cell rfl) (K.cl ((hS.blk 2 rfl hg_3).cell rfl) K.cl0)))))))) ?_
  refine K.l (K.OW.gst 1 [K.iv 2, K.iv th, K.iv i, .int .u64 0, .int .u64 wo, .bool false] _ hS hg_6 ?_)
  clear hS; intro w g_22 hg_23 hS
  replace hS : K.Sat w0 [l_20, g_22, g_2, gw, fr] w := hS
  refine K.z (K.t (K.r ?_))
  have e : M.accS n th i wo = ((M.count (⟨2, th, i, 0, wo, false⟩ : AccM) false), (⟨2, th, i, 0, wo, false⟩ : AccM)) := by simp [MemM.accS, h_9]
  refine ⟨.inr rfl, rfl, (.agg #[K.iv 2, K.iv th, K.iv i, .int .u64 0, .int .u64 wo, .bool false]), K.resAt (rs := [.cell 6 132]) [.agg #[K.iv 2, K.iv th, K.iv i, .int .u64 0, .int .u64 wo, .bool false]] rfl ⟨⟨_, rfl, K.lvN [K.iv 2, K.iv th, K.iv i, .int .u64 0, .int .u64 wo, .bool false] (by kernel_rfl) (by kernel_rfl) (K.cells (K.cl ((hS.blk 1 rfl hg_23).cell rfl) (K.cl ((hS.blk 1 rfl hg_23).cell rfl) (K.cl ((hS.blk 1 rfl hg_23).cell rfl) (K.cl ((hS.blk 1 rfl hg_23).cell rfl) (K.cl ((hS.blk 1 rfl hg_23).cell rfl) (K.cl ((hS.blk 1 rfl hg_23).cell rfl) K.cl0)))))))⟩, trivial⟩, [l_20, gw], ?_, hS.pick [0, 3, 4]⟩
  exact ⟨_, by rw [e]; rfl, rfl, by rw [e]; exact x_21⟩
set_option maxHeartbeats 1000000 in
set_option maxRecDepth 100000 in
theorem mWordW_ok (w0 : World) (p q n t : Nat) (M : MemM) (l : K.Cs) (x : MemAt l p q n t M) (th i : Int) (hi : isInt i) (wo old : Int) (b c : Nat) (gw go : K.Cs) (hgw : gw = [K.pt b 57 [.int .u64 wo]]) (hgo : go = [K.pt c 57 [.int .u64 old]]) :
  K.GC Tryz.prog w0 117 #[K.pa p, .agg #[K.iv 3, K.iv th, K.iv i, .int .u64 0, .int .u64 wo, .bool false], .func (.func 129) [].toArray [K.pa b, K.pa c].toArray] [l, gw, go] (fun v post => ∃ l', v = .agg (cAcc (M.accW n th i old wo).2).toArray ∧ post = [l', gw, go] ∧ MemAt l' p q n t (M.accW n th i old wo).1) := by
 refine K.GC.mk (n := 45) Tryz.func117 rfl rfl [K.pa p, .agg #[K.iv 3, K.iv th, K.iv i, .int .u64 0, .int .u64 wo, .bool false], .func (.func 129) [].toArray [K.pa b, K.pa c].toArray] rfl rfl ?_
 intro fr w hS
 replace hS : K.Sat w0 [l, gw, go, fr] w := hS
 refine K.s (K.g ?_)
 refine K.l (K.OW.gnew 132 [K.iv 3, K.iv th, K.iv i, .int .u64 0, .int .u64 wo, .bool false] hS ?_)
 clear hS; intro w r_1 g_2 hg_3 hS
 refine K.l (K.OW.gnew 132 [K.iv 0, K.iv 0, K.iv 0, .int .u64 0, .int .u64 0, .bool false] hS ?_)
 clear hS; intro w r_4 g_5 hg_6 hS
 refine K.z (K.t (K.s (K.g (K.q [K.pa p, .pointer (some ⟨r_1, 2, none⟩)] ?_))))
 refine K.d (K.iv i) ((hS.blk 1 rfl hg_3).cell rfl) ?_
 refine K.l (K.OW.gcall hS [2] [0, 1, 3, 4, 5] [K.pa p, K.iv i] (mPeek_ok _ _ _ _ _ _ _ x i (by omega)) ?_)
 clear hS; rintro _ _ w ⟨rfl, (⟨y_7, rfl, h_8⟩ | ⟨rfl, h_9⟩)⟩ hS
 ·
  replace hS : K.Sat w0 [l, g_5, g_2, gw, go, fr] w := hS
  refine K.q [.tuple #[.int .u64 y_7, .bool true], .int .u64 y_7, .bool true, .int .u64 y_7, .bool true] (K.z (K.t (K.s (K.s (K.g (K.q [.bool true] (K.z (K.t (K.h (K.s (K.g (K.q [.int .u64 y_7, .pointer (some ⟨r_1, 3, none⟩)] ?_))))))))))))
  refine K.l (K.OW.gst 2 [.int .u64 y_7] _ hS hg_3 ?_)
  clear hS; intro w g_10 hg_11 hS
  replace hS : K.Sat w0 [l, g_5, g_10, gw, go, fr] w := hS
  refine K.z (K.t (K.s (K.g (K.q [.func (.func 129) [].toArray [K.pa b, K.pa c].toArray, .int .u64 y_7] ?_))))
  refine K.l (K.OW.gcallw hS [3, 4] [0, 1, 2, 5] [.int .u64 y_7, K.pa b, K.pa c] (mSwap1_ok _ y_7 _ _ _ _ _ _ hgw hgo) ?_)
  clear hS; rintro _ _ w ⟨rfl, (⟨rfl, h_12⟩ | ⟨rfl, h_13⟩)⟩ hS
  ·
   replace hS : K.Sat w0 [gw, go, l, g_5, g_10, fr] w := hS
   refine K.q [.tuple #[.int .u64 wo, .bool true], .int .u64 wo, .bool true, .int .u64 wo, .bool true] (K.z (K.t (K.s (K.s (K.g (K.q [.bool true] (K.z (K.t (K.h (K.g (K.q [K.pa p, .pointer (some ⟨r_1, 2, none⟩)] ?_)))))))))))
   refine K.d (K.iv i) ((hS.blk 4 rfl hg_11).cell rfl) ?_
   refine K.q [.int .u64 wo] ?_
   refine K.l (K.OW.gcall hS [2] [0, 1, 3, 4, 5] [K.pa p, K.iv i, .int .u64 wo] (mPut_ok _ _ _ _ _ _ _ x i (by omega) wo _ h_8) ?_)
   clear hS; rintro _ _ w ⟨l_14, rfl, rfl, x_15⟩ hS
   replace hS : K.Sat w0 [l_14, gw, go, g_5, g_10, fr] w := hS
   refine K.z (K.t (K.g (K.q [.bool true, .bool true] (K.n_ (K.n_ (K.n_ (K.q [.bool true, .pointer (some ⟨r_1, 5, none⟩)] ?_)))))))
   refine K.l (K.OW.gst 4 [.bool true] _ hS hg_11 ?_)
   clear hS; intro w g_16 hg_17 hS
   replace hS : K.Sat w0 [l_14, gw, go, g_5, g_16, fr] w := hS
   refine K.z (K.t (K.s (K.g (K.q [K.pa p] ?_))))
   refine K.a (K.QR.ldN [K.iv 3, K.iv th, K.iv i, .int .u64 y_7, .int .u64 wo, .bool true] rfl rfl (by kernel_rfl) (by kernel_rfl) (K.cells (K.cl ((hS.blk 4 rfl hg_17).cell rfl) (K.cl ((hS.blk 4 rfl hg_17).cell rfl) (K.cl ((hS.blk 4 rfl hg_17).cell rfl) (K.cl ((hS.blk 4 rfl hg_17).cell rfl) (K.cl ((hS.blk 4 rfl hg_17).cell rfl) (K.cl ((hS.blk 4 rfl hg_17).cell rfl) K.cl0)))))))) ?_
   refine K.q [.bool true] ?_
   refine K.l (K.OW.gcall hS [0] [1, 2, 3, 4, 5] [K.pa p, .agg #[K.iv 3, K.iv th, K.iv i, .int .u64 y_7, .int .u64 wo, .bool true], .bool true] (mCountT_ok _ _ _ _ _ _ _ x_15 (⟨3, th, i, y_7, wo, true⟩ : AccM)) ?_)
   clear hS; rintro _ _ w ⟨l_18, rfl, rfl, x_19⟩ hS
   replace hS : K.Sat w0 [l_18, gw, go, g_5, g_16, fr] w := hS
   refine K.z (K.t (K.s (K.g ?_)))
   refine K.a (K.QR.ldN [K.iv 3, K.iv th, K.iv i, .int .u64 y_7, .int .u64 wo, .bool true] rfl rfl (by kernel_rfl) (by kernel_rfl) (K.cells (K.cl ((hS.blk 4 rfl hg_17).cell rfl) (K.cl ((hS.blk 4 rfl hg_17).cell rfl) (K.cl ((hS.blk 4 rfl hg_17).cell rfl) (K.cl ((hS.blk 4 rfl hg_17).cell rfl) (K.cl ((hS.blk 4 rfl hg_17).cell rfl) (K.cl ((hS.blk 4 rfl hg_17).cell rfl) K.cl0)))))))) ?_
   refine K.l (K.OW.gst 3 [K.iv 3, K.iv th, K.iv i, .int .u64 y_7, .int .u64 wo, .bool true] _ hS hg_6 ?_)
   clear hS; intro w g_20 hg_21 hS
   replace hS : K.Sat w0 [l_18, gw, go, g_20, g_16, fr] w := hS
   refine K.z (K.t (K.r ?_))
   have hb : ((y_7 : Int) == old) = true := by simp; omega
   have e : M.accW n th i old wo = (((M.put i wo).count (⟨3, th, i, y_7, wo, true⟩ : AccM) true), (⟨3, th, i, y_7, wo, true⟩ : AccM)) := by simp [MemM.accW, h_8, hb]
   refine ⟨.inr rfl, rfl, (.agg #[K.iv 3, K.iv th, K.iv i, .int .u64 y_7, .int .u64 wo, .bool true]), K.resAt (rs := [.cell 6 132]) [.agg #[K.iv 3, K.iv th, K.iv i, .int .u64 y_7, .int .u64 wo, .bool true]] rfl ⟨⟨_, rfl, K.lvN [K.iv 3, K.iv th, K.iv i, .int .u64 y_7, .int .u64 wo, .bool true] (by kernel_rfl) (by kernel_rfl) (K.cells (K.cl ((hS.blk 3 rfl hg_21).cell rfl) (K.cl ((hS.blk 3 rfl hg_21).cell rfl) (K.cl ((hS.blk 3 rfl hg_21).cell rfl) (K.cl ((hS.blk 3 rfl hg_21).cell rfl) (K.cl ((hS.blk 3 rfl hg_21).cell rfl) (K.cl ((hS.blk 3 rfl hg_21).cell rfl) K.cl0)))))))⟩, trivial⟩, [l_18, gw, go], ?_, hS.pick [0, 1, 2, 5]⟩
   exact ⟨_, by rw [e]; rfl, rfl, by rw [e]; exact x_19⟩
  ·
   replace hS : K.Sat w0 [gw, go, l, g_5, g_10, fr] w := hS
   refine K.q [.tuple #[.int .u64 wo, .bool false], .int .u64 wo, .bool false, .int .u64 wo, .bool false] (K.z (K.t (K.s (K.s (K.g (K.q [.bool false] (K.z (K.t (K.f (K.k (K.t (K.g (K.q [.bool false, .bool false, K.pa r_1] ?_)))))))))))))
   refine K.d (K.iv 3) ((hS.blk 4 rfl hg_11).cell rfl) ?_
   refine K.q [.bool false, .bool false, .pointer (some ⟨r_1, 5, none⟩)] ?_
   refine K.l (K.OW.gst 4 [.bool false] _ hS hg_11 ?_)
   clear hS; intro w g_22 hg_23 hS
   replace hS : K.Sat w0 [gw, go, l, g_5, g_22, fr] w := hS
   refine K.z (K.t (K.s (K.g (K.q [K.pa p] ?_))))
   refine K.a (K.QR.ldN [K.iv 3, K.iv th, K.iv i, .int .u64 y_7, .int .u64 wo, .bool false] rfl rfl (by kernel_rfl) (by kernel_rfl) (K.cells (K.cl ((hS.blk 4 rfl hg_23).cell rfl) (K.cl ((hS.blk 4 rfl hg_23).cell rfl) (K.cl ((hS.blk 4 rfl hg_23).cell rfl) (K.cl ((hS.blk 4 rfl hg_23).cell rfl) (K.cl ((hS.blk 4 rfl hg_23).cell rfl) (K.cl ((hS.blk 4 rfl hg_23).cell rfl) K.cl0)))))))) ?_
   refine K.q [.bool true] ?_
   refine K.l (K.OW.gcall hS [2] [0, 1, 3, 4, 5] [K.pa p, .agg #[K.iv 3, K.iv th, K.iv i, .int .u64 y_7, .int .u64 wo, .bool false], .bool true] (mCountT_ok _ _ _ _ _ _ _ x (⟨3, th, i, y_7, wo, false⟩ : AccM)) ?_)
   clear hS; rintro _ _ w ⟨l_24, rfl, rfl, x_25⟩ hS
   replace hS : K.Sat w0 [l_24, gw, go, g_5, g_22, fr] w := hS
   refine K.z (K.t (K.s (K.g ?_)))
   refine K.a (K.QR.ldN [K.iv 3, K.iv th, K.iv i, .int .u64 y_7, .int .u64 wo, .bool false] rfl rfl (by kernel_rfl) (by kernel_rfl) (K.cells (K.cl ((hS.blk 4 rfl hg_23).cell rfl) (K.cl ((hS.blk 4 rfl hg_23).cell rfl) (K.cl ((hS.blk 4 rfl hg_23).cell rfl) (K.cl ((hS.blk 4 rfl hg_23).cell rfl) (K.cl ((hS.blk 4 rfl hg_23).cell rfl) (K.cl ((hS.blk 4 rfl hg_23).cell rfl) K.cl0)))))))) ?_
   refine K.l (K.OW.gst 3 [K.iv 3, K.iv th, K.iv i, .int .u64 y_7, .int .u64 wo, .bool false] _ hS hg_6 ?_)
   clear hS; intro w g_26 hg_27 hS
   replace hS : K.Sat w0 [l_24, gw, go, g_26, g_22, fr] w := hS
   refine K.z (K.t (K.r ?_))
   have hb : ((y_7 : Int) == old) = false := by simp; omega
   have e : M.accW n th i old wo = ((M.count (⟨3, th, i, y_7, wo, false⟩ : AccM) true), (⟨3, th, i, y_7, wo, false⟩ : AccM)) := by simp [MemM.accW, h_8, hb]
   refine ⟨.inr rfl, rfl, (.agg #[K.iv 3, K.iv th, K.iv i, .int .u64 y_7, .int .u64 wo, .bool false]), K.resAt (rs := [.cell 6 132]) [.agg #[K.iv 3, K.iv th, K.iv i, .int .u64 y_7, .int .u64 wo, .bool false]] rfl ⟨⟨_, rfl, K.lvN [K.iv 3, K.iv th, K.iv i, .int .u64 y_7, .int .u64 wo, .bool false] (by kernel_rfl) (by kernel_rfl) (K.cells (K.cl ((hS.blk 3 rfl hg_27).cell rfl) (K.cl ((hS.blk 3 rfl hg_27).cell rfl) (K.cl ((hS.blk 3 rfl hg_27).cell rfl) (K.cl ((hS.blk 3 rfl hg_27).cell rfl) (K.cl ((hS.blk 3 rfl hg_27).cell rfl) (K.cl ((hS.blk 3 rfl hg_27).cell rfl) K.cl0)))))))⟩, trivial⟩, [l_24, gw, go], ?_, hS.pick [0, 1, 2, 5]⟩
   exact ⟨_, by rw [e]; rfl, rfl, by rw [e]; exact x_25⟩
 ·
  replace hS : K.Sat w0 [l, g_5, g_2, gw, go, fr] w := hS
  refine K.q [.tuple #[.int .u64 0, .bool false], .int .u64 0, .bool false, .int .u64 0, .bool false] (K.z (K.t (K.s (K.s (K.g (K.q [.bool false] (K.z (K.t (K.f (K.k (K.t (K.s (K.g (K.q [K.pa p] ?_))))))))))))))
  refine K.a (K.QR.ldN [K.iv 3, K.iv th, K.iv i, .int .u64 0, .int .u64 wo, .bool false] rfl rfl (by kernel_rfl) (by kernel_rfl) (K.cells (K.cl ((hS.blk 2 rfl hg_3).cell rfl) (K.cl ((hS.blk 2 rfl hg_3).cell rfl) (K.cl ((hS.blk 2 rfl hg_3).cell rfl) (K.cl ((hS.blk 2 rfl hg_3).cell rfl) (K.cl ((hS.blk 2 rfl hg_3).cell rfl) (K.cl ((hS.blk 2 rfl hg_3).cell rfl) K.cl0)))))))) ?_
  refine K.q [.bool false] ?_
  refine K.l (K.OW.gcall hS [0] [1, 2, 3, 4, 5] [K.pa p, .agg #[K.iv 3, K.iv th, K.iv i, .int .u64 0, .int .u64 wo, .bool false], .bool false] (mCountF_ok _ _ _ _ _ _ _ x (⟨3, th, i, 0, wo, false⟩ : AccM)) ?_)
  clear hS; rintro _ _ w ⟨l_28, rfl, rfl, x_29⟩ hS
  replace hS : K.Sat w0 [l_28, g_5, g_2, gw, go, fr] w := hS
  refine K.z (K.t (K.s (K.g ?_)))
  refine K.a (K.QR.ldN [K.iv 3, K.iv th, K.iv i, .int .u64 0, .int .u64 wo, .bool false] rfl rfl (by kernel_rfl) (by kernel_rfl) (K.cells (K.cl ((hS.blk 2 rfl hg_3).cell rfl) (K.cl ((hS.blk 2 rfl hg_3).cell rfl) (K.cl ((hS.blk 2 rfl hg_3).cell rfl) (K.cl ((hS.blk 2 rfl hg_3).cell rfl) (K.cl ((hS.blk 2 rfl hg_3).cell rfl) (K.cl ((hS.blk 2 rfl hg_3).cell rfl) K.cl0)))))))) ?_
  refine K.l (K.OW.gst 1 [K.iv 3, K.iv th, K.iv i, .int .u64 0, .int .u64 wo, .bool false] _ hS hg_6 ?_)
  clear hS; intro w g_30 hg_31 hS
  replace hS : K.Sat w0 [l_28, g_30, g_2, gw, go, fr] w := hS
  refine K.z (K.t (K.r ?_))
  have e : M.accW n th i old wo = ((M.count (⟨3, th, i, 0, wo, false⟩ : AccM) false), (⟨3, th, i, 0, wo, false⟩ : AccM)) := by simp [MemM.accW, h_9]
  refine ⟨.inr rfl, rfl, (.agg #[K.iv 3, K.iv th, K.iv i, .int .u64 0, .int .u64 wo, .bool false]), K.resAt (rs := [.cell 6 132]) [.agg #[K.iv 3, K.iv th, K.iv i, .int .u64 0, .int .u64 wo, .bool false]] rfl ⟨⟨_, rfl, K.lvN [K.iv 3, K.iv th, K.iv i, .int .u64 0, .int .u64 wo, .bool false] (by kernel_rfl) (by kernel_rfl) (K.cells (K.cl ((hS.blk 1 rfl hg_31).cell rfl) (K.cl ((hS.blk 1 rfl hg_31).cell rfl) (K.cl ((hS.blk 1 rfl hg_31).cell rfl) (K.cl ((hS.blk 1 rfl hg_31).cell rfl) (K.cl ((hS.blk 1 rfl hg_31).cell rfl) (K.cl ((hS.blk 1 rfl hg_31).cell rfl) K.cl0)))))))⟩, trivial⟩, [l_28, gw, go], ?_, hS.pick [0, 3, 4, 5]⟩
  exact ⟨_, by rw [e]; rfl, rfl, by rw [e]; exact x_29⟩
set_option maxHeartbeats 1000000 in
set_option maxRecDepth 100000 in
theorem mLoad_ok (w0 : World) (p q n t : Nat) (M : MemM) (l : K.Cs) (x : MemAt l p q n t M) (th i : Int) (hi : isInt i) :
  K.GC Tryz.prog w0 79 #[K.pa p, K.iv th, K.iv i] [l] (fun v post => ∃ l', v = .int .u64 (M.accL n th i).2.old ∧ post = [l'] ∧ MemAt l' p q n t (M.accL n th i).1) := by
 refine K.GC.mk (n := 17) Tryz.func79 rfl rfl [K.pa p, K.iv th, K.iv i] rfl rfl ?_
 intro fr w hS
 replace hS : K.Sat w0 [l, fr] w := hS
 refine K.s (K.g (K.q [.int .u64 0] (K.z (K.t (K.s (K.s (K.g (K.q [K.pa p, .bool false] (K.z (K.t (K.f (K.k (K.t (K.s ?_))))))))))))))
 refine K.g (K.q [K.pa p, K.iv th, K.iv i] ?_)
 refine K.a (K.QR.bd [(0, K.iv 1), (1, K.iv th), (2, K.iv i)] [K.iv 1, K.iv th, K.iv i, .int .u64 0, .int .u64 0, .bool false] rfl rfl (by kernel_rfl)) ?_
 refine K.l (K.OW.gcall hS [0] [1] [K.pa p, .agg #[K.iv 1, K.iv th, K.iv i, .int .u64 0, .int .u64 0, .bool false], .func (.func 128) [].toArray [].toArray] (mWordL_ok _ _ _ _ _ _ _ x th i (by omega)) ?_)
 clear hS; rintro _ _ w ⟨l_1, rfl, rfl, x_2⟩ hS
 replace hS : K.Sat w0 [l_1, fr] w := hS
 refine K.l (K.OW.gnew 132 [K.iv 0, K.iv 0, K.iv 0, .int .u64 0, .int .u64 0, .bool false] hS ?_)
 clear hS; intro w r_3 g_4 hg_5 hS
 refine K.l (K.OW.gst 0 [K.iv ((M.accL n th i).2.kind), K.iv ((M.accL n th i).2.thread), K.iv ((M.accL n th i).2.at_), .int .u64 ((M.accL n th i).2.old), .int .u64 ((M.accL n th i).2.new), .bool ((M.accL n th i).2.done)] _ hS hg_5 ?_)
 clear hS; intro w g_6 hg_7 hS
 replace hS : K.Sat w0 [g_6, l_1, fr] w := hS
 refine K.z (K.t (K.s (K.g (K.q [.pointer (some ⟨r_3, 3, none⟩)] ?_))))
 refine K.d (.int .u64 ((M.accL n th i).2.old)) ((hS.blk 0 rfl hg_7).cell rfl) ?_
 refine K.q [.int .u64 ((M.accL n th i).2.old)] (K.z (K.t (K.r ?_)))
 refine ⟨.inr rfl, rfl, (.int .u64 ((M.accL n th i).2.old)), K.res1 rfl rfl, [l_1], ?_, hS.pick [1, 2]⟩
 exact ⟨_, rfl, rfl, x_2⟩
set_option maxHeartbeats 1000000 in
set_option maxRecDepth 100000 in
theorem mStore_ok (w0 : World) (p q n t : Nat) (M : MemM) (l : K.Cs) (x : MemAt l p q n t M) (th i : Int) (hi : isInt i) (wo : Int) :
  K.GC Tryz.prog w0 66 #[K.pa p, K.iv th, K.iv i, .int .u64 wo] [l] (fun v post => ∃ l', v = .tuple #[] ∧ post = [l'] ∧ MemAt l' p q n t (M.accS n th i wo).1) := by
 refine K.GC.mk (n := 17) Tryz.func66 rfl rfl [K.pa p, K.iv th, K.iv i, .int .u64 wo] rfl rfl ?_
 intro fr w hS
 replace hS : K.Sat w0 [l, fr] w := hS
 refine K.s (K.g ?_)
 refine K.l (K.OW.gnew 57 [.int .u64 wo] hS ?_)
 clear hS; intro w r_1 g_2 hg_3 hS
 refine K.z (K.t (K.s (K.g (K.q [K.pa p, .bool true] (K.z (K.t (K.h (K.g (K.q [K.pa p, K.iv th, K.iv i] ?_)))))))))
 refine K.d (.int .u64 wo) ((hS.blk 0 rfl hg_3).cell rfl) ?_
 refine K.a (K.QR.bd [(0, K.iv 2), (1, K.iv th), (2, K.iv i), (4, .int .u64 wo)] [K.iv 2, K.iv th, K.iv i, .int .u64 0, .int .u64 wo, .bool false] rfl rfl (by kernel_rfl)) ?_
 refine K.a (K.QR.fn [] [K.pa r_1] rfl rfl rfl) ?_
 refine K.l (K.OW.gcall hS [1, 0] [2] [K.pa p, .agg #[K.iv 2, K.iv th, K.iv i, .int .u64 0, .int .u64 wo, .bool false], .func (.func 118) [].toArray [K.pa r_1].toArray] (mWordS_ok _ _ _ _ _ _ _ x th i (by omega) _ _ _ hg_3) ?_)
 clear hS; rintro _ _ w ⟨l_4, rfl, rfl, x_5⟩ hS
 replace hS : K.Sat w0 [l_4, g_2, fr] w := hS
 refine K.z ?_
 refine ⟨.inl rfl, rfl, (.tuple #[]), K.res0 rfl, [l_4], ?_, hS.pick [0, 2]⟩
 exact ⟨_, rfl, rfl, x_5⟩
set_option maxHeartbeats 1000000 in
set_option maxRecDepth 100000 in
theorem mSwap_ok (w0 : World) (p q n t : Nat) (M : MemM) (l : K.Cs) (x : MemAt l p q n t M) (th i : Int) (hi : isInt i) (old wo : Int) :
  K.GC Tryz.prog w0 80 #[K.pa p, K.iv th, K.iv i, .int .u64 old, .int .u64 wo] [l] (fun v post => ∃ l', v = .bool (M.accW n th i old wo).2.done ∧ post = [l'] ∧ MemAt l' p q n t (M.accW n th i old wo).1) := by
 refine K.GC.mk (n := 23) Tryz.func80 rfl rfl [K.pa p, K.iv th, K.iv i, .int .u64 old, .int .u64 wo] rfl rfl ?_
 intro fr w hS
 replace hS : K.Sat w0 [l, fr] w := hS
 refine K.s (K.g ?_)
 refine K.l (K.OW.gnew 57 [.int .u64 old] hS ?_)
 clear hS; intro w r_1 g_2 hg_3 hS
 refine K.l (K.OW.gnew 57 [.int .u64 wo] hS ?_)
 clear hS; intro w r_4 g_5 hg_6 hS
 refine K.q [.bool false] (K.z (K.t (K.s (K.s (K.g (K.q [K.pa p, .bool false] (K.z (K.t (K.f (K.k (K.t (K.s (K.g (K.q [K.pa p, K.iv th, K.iv i] ?_))))))))))))))
 refine K.d (.int .u64 wo) ((hS.blk 0 rfl hg_6).cell rfl) ?_
 refine K.a (K.QR.bd [(0, K.iv 3), (1, K.iv th), (2, K.iv i), (4, .int .u64 wo)] [K.iv 3, K.iv th, K.iv i, .int .u64 0, .int .u64 wo, .bool false] rfl rfl (by kernel_rfl)) ?_
 refine K.a (K.QR.fn [] [K.pa r_4, K.pa r_1] rfl rfl rfl) ?_
 refine K.l (K.OW.gcall hS [2, 0, 1] [3] [K.pa p, .agg #[K.iv 3, K.iv th, K.iv i, .int .u64 0, .int .u64 wo, .bool false], .func (.func 129) [].toArray [K.pa r_4, K.pa r_1].toArray] (mWordW_ok _ _ _ _ _ _ _ x th i (by omega) _ _ _ _ _ _ hg_6 hg_3) ?_)
 clear hS; rintro _ _ w ⟨l_7, rfl, rfl, x_8⟩ hS
 replace hS : K.Sat w0 [l_7, g_5, g_2, fr] w := hS
 refine K.l (K.OW.gnew 132 [K.iv 0, K.iv 0, K.iv 0, .int .u64 0, .int .u64 0, .bool false] hS ?_)
 clear hS; intro w r_9 g_10 hg_11 hS
 refine K.l (K.OW.gst 0 [K.iv ((M.accW n th i old wo).2.kind), K.iv ((M.accW n th i old wo).2.thread), K.iv ((M.accW n th i old wo).2.at_), .int .u64 ((M.accW n th i old wo).2.old), .int .u64 ((M.accW n th i old wo).2.new), .bool ((M.accW n th i old wo).2.done)] _ hS hg_11 ?_)
 clear hS; intro w g_12 hg_13 hS
 replace hS : K.Sat w0 [g_12, l_7, g_5, g_2, fr] w := hS
 refine K.z (K.t (K.s (K.g (K.q [.pointer (some ⟨r_9, 5, none⟩)] ?_))))
 refine K.d (.bool ((M.accW n th i old wo).2.done)) ((hS.blk 0 rfl hg_13).cell rfl) ?_
 refine K.q [.bool ((M.accW n th i old wo).2.done)] (K.z (K.t (K.r ?_)))
 refine ⟨.inr rfl, rfl, (.bool ((M.accW n th i old wo).2.done)), K.res1 rfl rfl, [l_7], ?_, hS.pick [1, 4]⟩
 exact ⟨_, rfl, rfl, x_8⟩
set_option maxHeartbeats 1000000 in
set_option maxRecDepth 100000 in
theorem mLine_ok (w0 : World) (p q n t : Nat) (M : MemM) (l : K.Cs) (x : MemAt l p q n t M) (a : AccM) (e : Int) (he : isInt e) :
  K.GC Tryz.prog w0 130 #[K.pa p, .agg #[K.iv a.kind, K.iv a.thread, K.iv a.at_, .int .u64 a.old, .int .u64 a.new, .bool a.done], K.iv e] [l] (fun v post => ∃ l', v = .tuple #[] ∧ post = [l'] ∧ MemAt l' p q n t (M.count (a.fin (decide (e = 0))) (decide (e = 0)))) := by
 refine K.GC.mk (n := 14) Tryz.func130 rfl rfl [K.pa p, .agg #[K.iv a.kind, K.iv a.thread, K.iv a.at_, .int .u64 a.old, .int .u64 a.new, .bool a.done], K.iv e] rfl rfl ?_
 intro fr w hS
 replace hS : K.Sat w0 [l, fr] w := hS
 refine K.s (K.g ?_)
 refine K.l (K.OW.gnew 132 [K.iv a.kind, K.iv a.thread, K.iv a.at_, .int .u64 a.old, .int .u64 a.new, .bool a.done] hS ?_)
 clear hS; intro w r_1 g_2 hg_3 hS
 refine K.z (K.t (K.s (K.g (K.q [K.iv e] ?_))))
 by_cases h_4 : (e : Int) = (0 : Int)
 ·
  refine K.ye (e : Int) (0 : Int) h_4 ?_
  refine K.q [.pointer (some ⟨r_1, 5, none⟩)] ?_
  refine K.l (K.OW.gst 0 [.bool true] _ hS hg_3 ?_)
  clear hS; intro w g_5 hg_6 hS
  replace hS : K.Sat w0 [g_5, l, fr] w := hS
  refine K.z (K.t (K.g (K.q [K.pa p] ?_)))
  refine K.a (K.QR.ldN [K.iv a.kind, K.iv a.thread, K.iv a.at_, .int .u64 a.old, .int .u64 a.new, .bool true] rfl rfl (by kernel_rfl) (by kernel_rfl) (K.cells (K.cl ((hS.blk 0 rfl hg_6).cell rfl) (K.cl ((hS.blk 0 rfl hg_6).cell rfl) (K.cl ((hS.blk 0 rfl hg_6).cell rfl) (K.cl ((hS.blk 0 rfl hg_6).cell rfl) (K.cl ((hS.blk 0 rfl hg_6).cell rfl) (K.cl ((hS.blk 0 rfl hg_6).cell rfl) K.cl0)))))))) ?_
  refine K.q [.pointer (some ⟨r_1, 5, none⟩)] ?_
  refine K.d (.bool true) ((hS.blk 0 rfl hg_6).cell rfl) ?_
  refine K.l (K.OW.gcall hS [1] [0, 2] [K.pa p, .agg #[K.iv a.kind, K.iv a.thread, K.iv a.at_, .int .u64 a.old, .int .u64 a.new, .bool true], .bool true] (mCountT_ok _ _ _ _ _ _ _ x (⟨a.kind, a.thread, a.at_, a.old, a.new, true⟩ : AccM)) ?_)
  clear hS; rintro _ _ w ⟨l_7, rfl, rfl, x_8⟩ hS
  replace hS : K.Sat w0 [l_7, g_5, fr] w := hS
  refine K.z ?_
  refine ⟨.inl rfl, rfl, (.tuple #[]), K.res0 rfl, [l_7], ?_, hS.pick [0, 2]⟩
  exact ⟨_, rfl, rfl, by rw [show decide ((e : Int) = 0) = true from decide_eq_true (by omega)]; exact x_8⟩
 ·
  refine K.xe (e : Int) (0 : Int) h_4 ?_
  refine K.q [.pointer (some ⟨r_1, 5, none⟩)] ?_
  refine K.l (K.OW.gst 0 [.bool false] _ hS hg_3 ?_)
  clear hS; intro w g_9 hg_10 hS
  replace hS : K.Sat w0 [g_9, l, fr] w := hS
  refine K.z (K.t (K.g (K.q [K.pa p] ?_)))
  refine K.a (K.QR.ldN [K.iv a.kind, K.iv a.thread, K.iv a.at_, .int .u64 a.old, .int .u64 a.new, .bool false] rfl rfl (by kernel_rfl) (by kernel_rfl) (K.cells (K.cl ((hS.blk 0 rfl hg_10).cell rfl) (K.cl ((hS.blk 0 rfl hg_10).cell rfl) (K.cl ((hS.blk 0 rfl hg_10).cell rfl) (K.cl ((hS.blk 0 rfl hg_10).cell rfl) (K.cl ((hS.blk 0 rfl hg_10).cell rfl) (K.cl ((hS.blk 0 rfl hg_10).cell rfl) K.cl0)))))))) ?_
  refine K.q [.pointer (some ⟨r_1, 5, none⟩)] ?_
  refine K.d (.bool false) ((hS.blk 0 rfl hg_10).cell rfl) ?_
  refine K.l (K.OW.gcall hS [1] [0, 2] [K.pa p, .agg #[K.iv a.kind, K.iv a.thread, K.iv a.at_, .int .u64 a.old, .int .u64 a.new, .bool false], .bool false] (mCountF_ok _ _ _ _ _ _ _ x (⟨a.kind, a.thread, a.at_, a.old, a.new, false⟩ : AccM)) ?_)
  clear hS; rintro _ _ w ⟨l_11, rfl, rfl, x_12⟩ hS
  replace hS : K.Sat w0 [l_11, g_9, fr] w := hS
  refine K.z ?_
  refine ⟨.inl rfl, rfl, (.tuple #[]), K.res0 rfl, [l_11], ?_, hS.pick [0, 2]⟩
  exact ⟨_, rfl, rfl, by rw [show decide ((e : Int) = 0) = false from decide_eq_false (by omega)]; exact x_12⟩
set_option maxHeartbeats 1000000 in
set_option maxRecDepth 100000 in
theorem mFlush_ok (w0 : World) (p q n t : Nat) (M : MemM) (l : K.Cs) (x : MemAt l p q n t M) (th : Int) (hth : isInt th) (i : Int) (hi : isInt i) :
  K.GC Tryz.prog w0 81 #[K.pa p, K.iv th, K.iv i] [l] (fun v post => ∃ l', v = .tuple #[] ∧ post = [l'] ∧ MemAt l' p q n t (M.accF n t th i).1) := by
 refine K.GC.mk (n := 30) Tryz.func81 rfl rfl [K.pa p, K.iv th, K.iv i] rfl rfl ?_
 intro fr w hS
 replace hS : K.Sat w0 [l, fr] w := hS
 refine K.KW.block ?_
 refine K.s (K.g (K.q [K.pa p, .bool false, .bool false] (K.z (K.t (K.f (K.s (K.g (K.q [K.iv i] ?_))))))))
 by_cases h_1 : (i : Int) < (0 : Int)
 ·
  refine K.y ((i : Int) < (0 : Int)) h_1 ?_
  refine K.q [.bool true] (K.z (K.t (K.h (K.g (K.q [K.pa p, K.iv th, K.iv i] ?_)))))
  refine K.a (K.QR.bd [(0, K.iv 4), (1, K.iv th), (2, K.iv i)] [K.iv 4, K.iv th, K.iv i, .int .u64 0, .int .u64 0, .bool false] rfl rfl (by kernel_rfl)) ?_
  refine K.l (K.OW.gcall hS [0] [1] [K.pa p, .agg #[K.iv 4, K.iv th, K.iv i, .int .u64 0, .int .u64 0, .bool false], K.iv 5] (mLine_ok _ _ _ _ _ _ _ x (⟨4, th, i, 0, 0, false⟩ : AccM) 5 (by omega)) ?_)
  clear hS; rintro _ _ w ⟨l_2, rfl, rfl, x_3⟩ hS
  replace hS : K.Sat w0 [l_2, fr] w := hS
  refine K.z ?_
  refine K.blk_normal ?_
  have hd : decide ((0 : Int) ≤ i ∧ i < n * 8 ∧ 0 ≤ th ∧ th < t) = false := decide_eq_false (by omega)
  have e : (M.accF n t th i).1 = (M.count (AccM.fin (⟨4, th, i, 0, 0, false⟩ : AccM) (decide ((5 : Int) = 0))) (decide ((5 : Int) = 0))) := by simp only [MemM.accF, hd]; rfl
  refine ⟨.inl rfl, rfl, (.tuple #[]), K.res0 rfl, [l_2], ?_, hS.pick [0, 1]⟩
  exact ⟨_, rfl, rfl, by rw [e]; exact x_3⟩
 ·
  refine K.x ((i : Int) < (0 : Int)) h_1 ?_
  refine K.q [.bool false] (K.z (K.t (K.f ?_)))
  obtain ⟨mg, mp, md, pa, np, cp, rfl, hmg, hmp, hmd, hnp, hn18⟩ := x
  replace hS : K.Sat w0 [mg, mp, md, fr] w := hS.of
  refine K.g (K.q [K.pa p, K.iv th, K.iv i] ?_)
  refine K.a (K.QR.bd [(0, K.iv 4), (1, K.iv th), (2, K.iv i)] [K.iv 4, K.iv th, K.iv i, .int .u64 0, .int .u64 0, .bool false] rfl rfl (by kernel_rfl)) ?_
  refine K.q [K.pa p, K.pa p, K.pa p] ?_
  refine K.d (K.pa q) ((hS.blk 0 rfl hmg).cell rfl) ?_
  refine K.q [K.iv th, K.iv i] ?_
  refine K.a (K.QR.quoi64 (i : Int) 8 ((i : Int) / 8) (by kernel_rfl) (by omega) (by omega)) ?_
  refine K.l (K.OW.gcall hS [2] [0, 1, 3] [K.pa q, K.iv th, K.iv ((i : Int) / 8)] (dvFlush_ok _ _ _ _ _ _ hmd th (by omega) ((i : Int) / 8) (by omega)) ?_)
  clear hS; rintro _ _ w (⟨rfl, h_4, l_5, rfl, x_6⟩ | ⟨rfl, h_7, rfl⟩ | ⟨rfl, h_8, rfl⟩) hS
  ·
   replace hS : K.Sat w0 [l_5, mg, mp, fr] w := hS
   replace hS : K.Sat w0 [[mg, mp, l_5].flatten, fr] w := (hS.pick [1, 2, 0, 3]).of
   have xm_9 : MemAt ([mg, mp, l_5].flatten) p q n t ({ M with dev := (M.dev.mark th.toNat ((i : Int) / 8).toNat) } : MemM) := ⟨_, _, _, _, _, _, rfl, hmg, hmp, x_6, hnp, hn18⟩
   generalize [mg, mp, l_5].flatten = lm_10 at hS xm_9
   refine K.l (K.OW.gcall hS [0] [1] [K.pa p, .agg #[K.iv 4, K.iv th, K.iv i, .int .u64 0, .int .u64 0, .bool false], K.iv 0] (mLine_ok _ _ _ _ _ _ _ xm_9 (⟨4, th, i, 0, 0, false⟩ : AccM) 0 (by omega)) ?_)
   clear hS; rintro _ _ w ⟨l_11, rfl, rfl, x_12⟩ hS
   replace hS : K.Sat w0 [l_11, fr] w := hS
   refine K.z ?_
   refine K.blk_normal ?_
   have hd : decide ((0 : Int) ≤ i ∧ i < n * 8 ∧ 0 ≤ th ∧ th < t) = true := decide_eq_true (by omega)
   have e : (M.accF n t th i).1 = (({ M with dev := (M.dev.mark th.toNat ((i : Int) / 8).toNat) } : MemM).count (AccM.fin (⟨4, th, i, 0, 0, false⟩ : AccM) (decide ((0 : Int) = 0))) (decide ((0 : Int) = 0))) := by simp only [MemM.accF, hd]; rfl
   refine ⟨.inl rfl, rfl, (.tuple #[]), K.res0 rfl, [l_11], ?_, hS.pick [0, 1]⟩
   exact ⟨_, rfl, rfl, by rw [e]; exact x_12⟩
  ·
   replace hS : K.Sat w0 [md, mg, mp, fr] w := hS
   replace hS : K.Sat w0 [[mg, mp, md].flatten, fr] w := (hS.pick [1, 2, 0, 3]).of
   have xm_13 : MemAt ([mg, mp, md].flatten) p q n t ({ M with dev := M.dev } : MemM) := ⟨_, _, _, _, _, _, rfl, hmg, hmp, hmd, hnp, hn18⟩
   generalize [mg, mp, md].flatten = lm_14 at hS xm_13
   refine K.l (K.OW.gcall hS [0] [1] [K.pa p, .agg #[K.iv 4, K.iv th, K.iv i, .int .u64 0, .int .u64 0, .bool false], K.iv 1] (mLine_ok _ _ _ _ _ _ _ xm_13 (⟨4, th, i, 0, 0, false⟩ : AccM) 1 (by omega)) ?_)
   clear hS; rintro _ _ w ⟨l_15, rfl, rfl, x_16⟩ hS
   replace hS : K.Sat w0 [l_15, fr] w := hS
   refine K.z ?_
   refine K.blk_normal ?_
   have hd : decide ((0 : Int) ≤ i ∧ i < n * 8 ∧ 0 ≤ th ∧ th < t) = false := decide_eq_false (by omega)
   have e : (M.accF n t th i).1 = (({ M with dev := M.dev } : MemM).count (AccM.fin (⟨4, th, i, 0, 0, false⟩ : AccM) (decide ((1 : Int) = 0))) (decide ((1 : Int) = 0))) := by simp only [MemM.accF, hd]; rfl
   refine ⟨.inl rfl, rfl, (.tuple #[]), K.res0 rfl, [l_15], ?_, hS.pick [0, 1]⟩
   exact ⟨_, rfl, rfl, by rw [e]; exact x_16⟩
  ·
   replace hS : K.Sat w0 [md, mg, mp, fr] w := hS
   replace hS : K.Sat w0 [[mg, mp, md].flatten, fr] w := (hS.pick [1, 2, 0, 3]).of
   have xm_17 : MemAt ([mg, mp, md].flatten) p q n t ({ M with dev := M.dev } : MemM) := ⟨_, _, _, _, _, _, rfl, hmg, hmp, hmd, hnp, hn18⟩
   generalize [mg, mp, md].flatten = lm_18 at hS xm_17
   refine K.l (K.OW.gcall hS [0] [1] [K.pa p, .agg #[K.iv 4, K.iv th, K.iv i, .int .u64 0, .int .u64 0, .bool false], K.iv 5] (mLine_ok _ _ _ _ _ _ _ xm_17 (⟨4, th, i, 0, 0, false⟩ : AccM) 5 (by omega)) ?_)
   clear hS; rintro _ _ w ⟨l_19, rfl, rfl, x_20⟩ hS
   replace hS : K.Sat w0 [l_19, fr] w := hS
   refine K.z ?_
   refine K.blk_normal ?_
   have hd : decide ((0 : Int) ≤ i ∧ i < n * 8 ∧ 0 ≤ th ∧ th < t) = false := decide_eq_false (by omega)
   have e : (M.accF n t th i).1 = (({ M with dev := M.dev } : MemM).count (AccM.fin (⟨4, th, i, 0, 0, false⟩ : AccM) (decide ((5 : Int) = 0))) (decide ((5 : Int) = 0))) := by simp only [MemM.accF, hd]; rfl
   refine ⟨.inl rfl, rfl, (.tuple #[]), K.res0 rfl, [l_19], ?_, hS.pick [0, 1]⟩
   exact ⟨_, rfl, rfl, by rw [e]; exact x_20⟩
set_option maxHeartbeats 1000000 in
set_option maxRecDepth 100000 in
theorem mFence_ok (w0 : World) (p q n t : Nat) (M : MemM) (l : K.Cs) (x : MemAt l p q n t M) (th : Int) (hth : isInt th) :
  K.GC Tryz.prog w0 82 #[K.pa p, K.iv th] [l] (fun v post => ∃ l', v = .tuple #[] ∧ post = [l'] ∧ MemAt l' p q n t (M.accE t th).1) := by
 refine K.GC.mk (n := 16) Tryz.func82 rfl rfl [K.pa p, K.iv th] rfl rfl ?_
 intro fr w hS
 replace hS : K.Sat w0 [l, fr] w := hS
 refine K.s (K.g (K.q [K.pa p, .bool true] (K.z (K.t (K.h ?_)))))
 obtain ⟨mg, mp, md, pa, np, cp, rfl, hmg, hmp, hmd, hnp, hn18⟩ := x
 replace hS : K.Sat w0 [mg, mp, md, fr] w := hS.of
 refine K.g (K.q [K.pa p, K.iv th] ?_)
 refine K.a (K.QR.bd [(0, K.iv 5), (1, K.iv th)] [K.iv 5, K.iv th, K.iv 0, .int .u64 0, .int .u64 0, .bool false] rfl rfl (by kernel_rfl)) ?_
 refine K.q [K.pa p, K.pa p, K.pa p] ?_
 refine K.d (K.pa q) ((hS.blk 0 rfl hmg).cell rfl) ?_
 refine K.q [K.iv th] ?_
 refine K.l (K.OW.gcall hS [2] [0, 1, 3] [K.pa q, K.iv th] (dvFence_ok _ _ _ _ _ _ hmd th (by omega)) ?_)
 clear hS; rintro _ _ w (⟨rfl, h_1, l_2, rfl, x_3⟩ | ⟨rfl, h_4, rfl⟩) hS
 ·
  replace hS : K.Sat w0 [l_2, mg, mp, fr] w := hS
  replace hS : K.Sat w0 [[mg, mp, l_2].flatten, fr] w := (hS.pick [1, 2, 0, 3]).of
  have xm_5 : MemAt ([mg, mp, l_2].flatten) p q n t ({ M with dev := (M.dev.fence th.toNat) } : MemM) := ⟨_, _, _, _, _, _, rfl, hmg, hmp, x_3, hnp, hn18⟩
  generalize [mg, mp, l_2].flatten = lm_6 at hS xm_5
  refine K.l (K.OW.gcall hS [0] [1] [K.pa p, .agg #[K.iv 5, K.iv th, K.iv 0, .int .u64 0, .int .u64 0, .bool false], K.iv 0] (mLine_ok _ _ _ _ _ _ _ xm_5 (⟨5, th, 0, 0, 0, false⟩ : AccM) 0 (by omega)) ?_)
  clear hS; rintro _ _ w ⟨l_7, rfl, rfl, x_8⟩ hS
  replace hS : K.Sat w0 [l_7, fr] w := hS
  refine K.z ?_
  have hd : decide ((0 : Int) ≤ th ∧ th < t) = true := decide_eq_true (by omega)
  have e : (M.accE t th).1 = (({ M with dev := (M.dev.fence th.toNat) } : MemM).count (AccM.fin (⟨5, th, 0, 0, 0, false⟩ : AccM) (decide ((0 : Int) = 0))) (decide ((0 : Int) = 0))) := by simp only [MemM.accE, hd]; rfl
  refine ⟨.inl rfl, rfl, (.tuple #[]), K.res0 rfl, [l_7], ?_, hS.pick [0, 1]⟩
  exact ⟨_, rfl, rfl, by rw [e]; exact x_8⟩
 ·
  replace hS : K.Sat w0 [md, mg, mp, fr] w := hS
  replace hS : K.Sat w0 [[mg, mp, md].flatten, fr] w := (hS.pick [1, 2, 0, 3]).of
  have xm_9 : MemAt ([mg, mp, md].flatten) p q n t ({ M with dev := M.dev } : MemM) := ⟨_, _, _, _, _, _, rfl, hmg, hmp, hmd, hnp, hn18⟩
  generalize [mg, mp, md].flatten = lm_10 at hS xm_9
  refine K.l (K.OW.gcall hS [0] [1] [K.pa p, .agg #[K.iv 5, K.iv th, K.iv 0, .int .u64 0, .int .u64 0, .bool false], K.iv 1] (mLine_ok _ _ _ _ _ _ _ xm_9 (⟨5, th, 0, 0, 0, false⟩ : AccM) 1 (by omega)) ?_)
  clear hS; rintro _ _ w ⟨l_11, rfl, rfl, x_12⟩ hS
  replace hS : K.Sat w0 [l_11, fr] w := hS
  refine K.z ?_
  have hd : decide ((0 : Int) ≤ th ∧ th < t) = false := decide_eq_false (by omega)
  have e : (M.accE t th).1 = (({ M with dev := M.dev } : MemM).count (AccM.fin (⟨5, th, 0, 0, 0, false⟩ : AccM) (decide ((1 : Int) = 0))) (decide ((1 : Int) = 0))) := by simp only [MemM.accE, hd]; rfl
  refine ⟨.inl rfl, rfl, (.tuple #[]), K.res0 rfl, [l_11], ?_, hS.pick [0, 1]⟩
  exact ⟨_, rfl, rfl, by rw [e]; exact x_12⟩
set_option maxHeartbeats 1000000 in
set_option maxRecDepth 100000 in
theorem mCrash_ok (w0 : World) (p q n t : Nat) (M : MemM) (l : K.Cs) (x : MemAt l p q n t M) :
  K.GC Tryz.prog w0 84 #[K.pa p] [l] (fun v post => ∃ l', v = .tuple #[] ∧ post = [l'] ∧ MemAt l' p q n t M.crash) := by
 refine K.GC.mk (n := 17) Tryz.func84 rfl rfl [K.pa p] rfl rfl ?_
 intro fr w hS
 replace hS : K.Sat w0 [l, fr] w := hS
 refine K.s (K.s (K.g (K.q [K.pa p, .bool false] (K.z (K.t (K.f (K.k (K.t (K.s ?_)))))))))
 obtain ⟨mg, mp, md, pa, np, cp, rfl, hmg, hmp, hmd, hnp, hn18⟩ := x
 replace hS : K.Sat w0 [mg, mp, md, fr] w := hS.of
 refine K.g (K.q [K.pa p, K.pa p, K.pa p] ?_)
 refine K.d (K.pa q) ((hS.blk 0 rfl hmg).cell rfl) ?_
 refine K.l (K.OW.gcall hS [2] [0, 1, 3] [K.pa q] (dvCrash_ok _ _ _ _ _ _ hmd ) ?_)
 clear hS; rintro _ _ w ⟨l_1, rfl, rfl, x_2⟩ hS
 replace hS : K.Sat w0 [l_1, mg, mp, fr] w := hS
 refine K.z (K.t (K.s (K.g (K.q [K.pa p, K.pa p, .pointer (some ⟨p, 1, none⟩)] ?_))))
 refine K.d (.slice pa np cp) ((hS.blk 1 rfl hmg).cell rfl) ?_
 refine K.l (K.OW.gclr (P := Tryz.prog) (c := cU64) (z := .int .u64 0) (size := 1) 2 0 hS hmp ?_ Tryz.underlying78 (by kernel_rfl) rfl rfl (by intro v hv; rw [List.mem_singleton.1 hv]; rfl))
 clear hS; intro w l_3 o_4 hS
 replace hS : K.Sat w0 [l_1, mg, l_3, fr] w := hS
 refine K.z (K.t (K.g (K.q [K.pa p] ?_)))
 refine K.a (K.QR.bd [] [K.iv 0, K.iv 0, K.iv 0, .int .u64 0, .int .u64 0, .bool false] rfl rfl (by kernel_rfl)) ?_
 refine K.q [K.pa p, .pointer (some ⟨p, 4, none⟩)] ?_
 refine K.l (K.OW.gst 1 [K.iv 0, K.iv 0, K.iv 0, .int .u64 0, .int .u64 0, .bool false] _ hS hmg ?_)
 clear hS; intro w g_5 hg_6 hS
 replace hS : K.Sat w0 [l_1, g_5, l_3, fr] w := hS
 refine K.z ?_
 replace hS : K.Sat w0 [[g_5, l_3, l_1].flatten, fr] w := (hS.pick [1, 2, 0, 3]).of
 refine ⟨.inl rfl, rfl, (.tuple #[]), K.res0 rfl, [[g_5, l_3, l_1].flatten], ?_, hS.pick [0, 1]⟩
 exact ⟨_, rfl, rfl, by unfold MemM.crash; rw [hnp]; exact ⟨_, _, _, _, _, _, rfl, hg_6, o_4, x_2, (List.length_replicate : (List.replicate np (0 : Int)).length = np), hn18⟩⟩
set_option maxHeartbeats 1000000 in
set_option maxRecDepth 100000 in
theorem mNew_ok (w0 : World) (q n t : Nat) (D : DevM) (l : K.Cs) (x : DevAt l q n t D) (k : Int) (hk : isInt k) :
  K.GC Tryz.prog w0 64 #[K.pa q, K.iv k] [l] (fun v post => (∃ p l', v = .tuple #[K.pa p, K.iv 0] ∧ post = [l'] ∧ MemAt l' p q n t (MemM.of D k.toNat) ∧ (0 ≤ k ∧ k ≤ 262144)) ∨ (v = .tuple #[.pointer none, K.iv 1] ∧ ¬(0 ≤ k ∧ k ≤ 262144) ∧ post = [l])) := by
 refine K.GC.mk (n := 21) Tryz.func64 rfl rfl [K.pa q, K.iv k] rfl rfl ?_
 intro fr w hS
 replace hS : K.Sat w0 [l, fr] w := hS
 refine K.s (K.g (K.q [.pointer none, K.iv 0] (K.z (K.t (K.s (K.s (K.g (K.q [K.pa q, .bool false, .bool false, K.iv k] ?_))))))))
 by_cases h_1 : (k : Int) < (0 : Int)
 ·
  refine K.y ((k : Int) < (0 : Int)) h_1 ?_
  refine K.q [.bool true, .bool true] (K.n_ (K.n_ (K.q [.bool true] (K.z (K.t (K.h (K.s (K.g (K.q [.pointer none, K.iv 1] (K.z (K.t (K.r (K.u ?_)))))))))))))
  refine ⟨.inr rfl, rfl, (.tuple #[.pointer none, K.iv 1]), K.res2 rfl rfl rfl, [l], ?_, hS.pick [0, 1]⟩
  exact .inr ⟨rfl, by omega, rfl⟩
 ·
  refine K.x ((k : Int) < (0 : Int)) h_1 ?_
  refine K.q [.bool false, .bool false, K.iv k] ?_
  by_cases h_2 : (k : Int) > (262144 : Int)
  ·
   refine K.y ((k : Int) > (262144 : Int)) h_2 ?_
   refine K.q [.bool true] (K.z (K.t (K.h (K.s (K.g (K.q [.pointer none, K.iv 1] (K.z (K.t (K.r (K.u ?_))))))))))
   refine ⟨.inr rfl, rfl, (.tuple #[.pointer none, K.iv 1]), K.res2 rfl rfl rfl, [l], ?_, hS.pick [0, 1]⟩
   exact .inr ⟨rfl, by omega, rfl⟩
  ·
   refine K.x ((k : Int) > (262144 : Int)) h_2 ?_
   refine K.q [.bool false] (K.z (K.t (K.f (K.k (K.t (K.s (K.g (K.q [K.pa q] ?_))))))))
   refine K.a (K.QR.turn (v := K.iv k) (K.QR.k (v := K.iv k) (by kernel_rfl)) (congrArg (Value.int .i64) (show (k : Int) = (((k.toNat : Nat) : Int) : Int) from by omega))) ?_
   refine K.l (K.OW.gmk (P := Tryz.prog) (m := k.toNat) (cc := cU64) (z := .int .u64 0) (size := 1) (bytes := 8) (0 : Int) hS ?_ Tryz.underlying78 (by kernel_rfl) rfl rfl (by unfold maxLen; omega) (by omega))
   clear hS; intro w r_3 l_4 o_5 hS
   refine K.a (K.QR.bd [(0, K.pa q), (1, .slice (some ⟨r_3, 0, none⟩) k.toNat k.toNat)] [K.pa q, .slice (some ⟨r_3, 0, none⟩) k.toNat k.toNat, K.iv 0, K.iv 0, K.iv 0, K.iv 0, K.iv 0, .int .u64 0, .int .u64 0, .bool false] rfl rfl (by kernel_rfl)) ?_
   refine K.l (K.OW.gnew 171 [K.pa q, .slice (some ⟨r_3, 0, none⟩) k.toNat k.toNat, K.iv 0, K.iv 0, K.iv 0, K.iv 0, K.iv 0, .int .u64 0, .int .u64 0, .bool false] hS ?_)
   clear hS; intro w r_6 g_7 hg_8 hS
   refine K.q [K.pa r_6, K.iv 0] (K.z (K.t (K.r ?_)))
   replace hS : K.Sat w0 [[g_7, l_4, l].flatten, fr] w := (hS.pick [0, 1, 2, 3]).of
   refine ⟨.inr rfl, rfl, (.tuple #[K.pa r_6, K.iv 0]), K.res2 rfl rfl rfl, [[g_7, l_4, l].flatten], ?_, hS.pick [0, 1]⟩
   exact .inl ⟨_, _, rfl, rfl, (by have hn18 : k.toNat ≤ 262144 := (by omega); exact ⟨_, _, _, _, _, _, rfl, hg_8, o_5, x, (List.length_replicate : ((List.replicate k.toNat (0 : Int))).length = k.toNat), hn18⟩), by omega⟩
end Go.Proofs.YtbfafebfkdbglaaGreat
