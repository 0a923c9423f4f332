/- Layer 13: what the statements call. -/
import Derived.Test.YtbfafebfkdbglaaGreatFlk
import Derived.Test.YtbfafebfkdbglaaGreatKn
namespace Go.Proofs.YtbfafebfkdbglaaGreat
open Go.RowKit
set_option linter.unusedVariables false
attribute [local irreducible] K.KW K.RW K.DW K.OW K.QR K.KC
theorem i64s_int (x : Int) : isInt (i64s x) := by
 have : i64s x = (x + 1 + 9223372036854775808) % 18446744073709551616 - 9223372036854775808 := by
  unfold i64s; simp [IntKind.wrap, IntKind.bits, IntKind.signed]; omega
 rw [this]; omega
theorem isL00 : isL 0 := by unfold isL; omega
theorem rdStep_good2 {n nt : Nat} {S : RdS} {M : MemM} (hS : S.good) (hM : M.good) : (rdStep n nt S M).1.good ∧ (rdStep n nt S M).2.good := rdStep_good hS hM (i64s_int _)
theorem rdInit {a b : Int} (ha : isInt a) (hb : isInt b) : RdS.good ⟨a, b, 0, 0, -1⟩ := ⟨ha, hb, (by decide : (0 : Int) ≤ 0 ∧ (0 : Int) ≤ 4), isL00, (by omega : isInt (-1))⟩
theorem seInit {a b o w : Int} (ha : isInt a) (hb : isInt b) : SeS.good ⟨a, b, 0, cleanI w, -1, cleanI o, false, 0⟩ := ⟨ha, hb, (by decide : (0 : Int) ≤ 0 ∧ (0 : Int) ≤ 4), cleanI_l _, cleanI_l _, fun _ => ⟨rfl, rfl, rfl⟩⟩
theorem rdWord_w {S : RdS} (h : S.good) : isW (rdWord S) := by
 unfold rdWord
 split
 ·exact h.2.2.2.1.w
 ·exact isW0
set_option maxHeartbeats 1000000 in
set_option maxRecDepth 100000 in
theorem newrd_ok (w0 : World) (tt : Int) (htt : isInt tt) (ii : Int) (hii : isInt ii) :
  K.GC Tryz.prog w0 120 #[.int .i64 tt, .int .i64 ii] [] (fun v post => ∃ p g, v = .pointer (some ⟨p, 0, none⟩) ∧ post = [g] ∧ g = rdPt p ⟨tt, ii, 0, 0, -1⟩) := by
 refine K.GC.mk (n := 10) Tryz.func120 rfl rfl [.int .i64 tt, .int .i64 ii] rfl rfl ?_
 intro fr w hS
 replace hS : K.Sat w0 [fr] w := hS
 refine K.s (K.g (K.q [.pointer none] (K.z (K.t (K.s (K.g (K.q [.int .i64 tt, .int .i64 ii] ?_)))))))
 refine K.a (K.QR.bd [(0, .int .i64 tt), (1, .int .i64 ii), (4, .int .i64 (-1))] [.int .i64 tt, .int .i64 ii, .int .i64 0, .int .u64 0, .int .i64 (-1)] rfl rfl (by kernel_rfl)) ?_
 refine K.a (K.QR.bd [(0, .agg #[.int .i64 tt, .int .i64 ii, .int .i64 0, .int .u64 0, .int .i64 (-1)])] [.int .i64 tt, .int .i64 ii, .int .i64 0, .int .u64 0, .int .i64 (-1)] rfl rfl (by kernel_rfl)) ?_
 refine K.l (K.OW.gnew 232 [.int .i64 tt, .int .i64 ii, .int .i64 0, .int .u64 0, .int .i64 (-1)] hS ?_)
 clear hS; intro w r_1 g_2 hg_3 hS
 refine K.q [.pointer (some ⟨r_1, 0, none⟩)] (K.z (K.t (K.r ?_)))
 refine ⟨.inr rfl, rfl, (.pointer (some ⟨r_1, 0, none⟩)), K.res1 rfl rfl, [g_2], ?_, hS.pick [0, 1]⟩
 exact ⟨_, _, rfl, rfl, hg_3⟩
set_option maxHeartbeats 1000000 in
set_option maxRecDepth 100000 in
theorem newse_ok (w0 : World) (tt : Int) (htt : isInt tt) (ii : Int) (hii : isInt ii) (oo : Int) (hoo : isW oo) (ww : Int) (hww : isW ww) :
  K.GC Tryz.prog w0 199 #[.int .i64 tt, .int .i64 ii, .int .u64 oo, .int .u64 ww] [] (fun v post => ∃ p g, v = .pointer (some ⟨p, 0, none⟩) ∧ post = [g] ∧ g = sePt p ⟨tt, ii, 0, (cleanI ww), -1, (cleanI oo), false, 0⟩) := by
 refine K.GC.mk (n := 18) Tryz.func199 rfl rfl [.int .i64 tt, .int .i64 ii, .int .u64 oo, .int .u64 ww] rfl rfl ?_
 intro fr w hS
 replace hS : K.Sat w0 [fr] w := hS
 refine K.s (K.g (K.q [.pointer none] (K.z (K.t (K.s (K.g (K.q [.int .i64 tt, .int .i64 ii, .int .u64 ww] ?_)))))))
 refine K.l (K.OW.gcall hS [] [0] [.int .u64 ww] (clean_ok _ ww (by first | assumption | exact isL.w (by assumption) | exact soilI_w _ | (unfold isW; omega))) ?_)
 clear hS; rintro _ _ w ⟨rfl, rfl⟩ hS
 replace hS : K.Sat w0 [fr] w := hS
 have hw_1 : isL (cleanI ww) := cleanI_l _
 refine K.a (K.QR.bd [(0, .int .i64 tt), (1, .int .i64 ii), (3, .int .u64 (cleanI ww)), (4, .int .i64 (-1))] [.int .i64 tt, .int .i64 ii, .int .i64 0, .int .u64 (cleanI ww), .int .i64 (-1)] rfl rfl (by kernel_rfl)) ?_
 refine K.q [.int .u64 oo] ?_
 refine K.l (K.OW.gcall hS [] [0] [.int .u64 oo] (clean_ok _ oo (by first | assumption | exact isL.w (by assumption) | exact soilI_w _ | (unfold isW; omega))) ?_)
 clear hS; rintro _ _ w ⟨rfl, rfl⟩ hS
 replace hS : K.Sat w0 [fr] w := hS
 have hw_2 : isL (cleanI oo) := cleanI_l _
 refine K.a (K.QR.bd [(0, .agg #[.int .i64 tt, .int .i64 ii, .int .i64 0, .int .u64 (cleanI ww), .int .i64 (-1)]), (1, .int .u64 (cleanI oo))] [.int .i64 tt, .int .i64 ii, .int .i64 0, .int .u64 (cleanI ww), .int .i64 (-1), .int .u64 (cleanI oo), .bool false, .int .i64 0] rfl rfl (by kernel_rfl)) ?_
 refine K.l (K.OW.gnew 256 [.int .i64 tt, .int .i64 ii, .int .i64 0, .int .u64 (cleanI ww), .int .i64 (-1), .int .u64 (cleanI oo), .bool false, .int .i64 0] hS ?_)
 clear hS; intro w r_3 g_4 hg_5 hS
 refine K.q [.pointer (some ⟨r_3, 0, none⟩)] (K.z (K.t (K.r ?_)))
 refine ⟨.inr rfl, rfl, (.pointer (some ⟨r_3, 0, none⟩)), K.res1 rfl rfl, [g_4], ?_, hS.pick [0, 1]⟩
 exact ⟨_, _, rfl, rfl, hg_5⟩
set_option maxHeartbeats 1000000 in
set_option maxRecDepth 100000 in
theorem rdWord_ok (w0 : World) (p : Nat) (S : RdS) (gp : K.Cs) (hgp : gp = rdPt p S) :
  K.GC Tryz.prog w0 168 #[.pointer (some ⟨p, 0, none⟩)] [gp] (fun v post => v = .int .u64 (rdWord S) ∧ post = [gp]) := by
 refine K.GC.mk (n := 18) Tryz.func168 rfl rfl [.pointer (some ⟨p, 0, none⟩)] rfl rfl ?_
 intro fr w hS
 replace hS : K.Sat w0 [gp, fr] w := hS
 refine K.s (K.g (K.q [.int .u64 0] (K.z (K.t (K.s (K.s (K.g (K.q [.pointer (some ⟨p, 0, none⟩), .bool false, .bool false, .pointer (some ⟨p, 0, none⟩), .pointer (some ⟨p, 0, none⟩), .pointer (some ⟨p, 0, none⟩), .pointer (some ⟨p, 2, none⟩)] ?_))))))))
 refine K.d (.int .i64 S.pc) ((hS.blk 0 rfl hgp).cell rfl) ?_
 by_cases h_1 : (S.pc : Int) = (4 : Int)
 ·
  refine K.xn (S.pc : Int) (4 : Int) h_1 ?_
  refine K.q [.bool false] (K.z (K.t (K.f (K.k (K.t (K.s (K.g (K.q [.pointer (some ⟨p, 0, none⟩), .pointer (some ⟨p, 0, none⟩), .pointer (some ⟨p, 0, none⟩), .pointer (some ⟨p, 3, none⟩)] ?_))))))))
  refine K.d (.int .u64 S.word) ((hS.blk 0 rfl hgp).cell rfl) ?_
  refine K.q [.int .u64 S.word] (K.z (K.t (K.r ?_)))
  refine ⟨.inr rfl, rfl, (.int .u64 S.word), K.res1 rfl rfl, [gp], ?_, hS.pick [0, 1]⟩
  exact ⟨congrArg (Value.int .u64) (if_pos (by omega)).symm, rfl⟩
 ·
  refine K.yn (S.pc : Int) (4 : Int) h_1 ?_
  refine K.q [.bool true] (K.z (K.t (K.h (K.s (K.g (K.q [.int .u64 0] (K.z (K.t (K.r (K.u ?_))))))))))
  refine ⟨.inr rfl, rfl, (.int .u64 0), K.res1 rfl rfl, [gp], ?_, hS.pick [0, 1]⟩
  exact ⟨congrArg (Value.int .u64) (if_neg (by omega)).symm, rfl⟩
set_option maxHeartbeats 1000000 in
set_option maxRecDepth 100000 in
theorem rdWhen_ok (w0 : World) (p : Nat) (S : RdS) (gp : K.Cs) (hgp : gp = rdPt p S) :
  K.GC Tryz.prog w0 170 #[.pointer (some ⟨p, 0, none⟩)] [gp] (fun v post => v = .int .i64 (rdWhen S) ∧ post = [gp]) := by
 refine K.GC.mk (n := 18) Tryz.func170 rfl rfl [.pointer (some ⟨p, 0, none⟩)] rfl rfl ?_
 intro fr w hS
 replace hS : K.Sat w0 [gp, fr] w := hS
 refine K.s (K.g (K.q [.int .i64 0] (K.z (K.t (K.s (K.s (K.g (K.q [.pointer (some ⟨p, 0, none⟩), .bool false, .bool false, .pointer (some ⟨p, 0, none⟩), .pointer (some ⟨p, 0, none⟩), .pointer (some ⟨p, 0, none⟩), .pointer (some ⟨p, 2, none⟩)] ?_))))))))
 refine K.d (.int .i64 S.pc) ((hS.blk 0 rfl hgp).cell rfl) ?_
 by_cases h_1 : (S.pc : Int) = (4 : Int)
 ·
  refine K.xn (S.pc : Int) (4 : Int) h_1 ?_
  refine K.q [.bool false] (K.z (K.t (K.f (K.k (K.t (K.s (K.g (K.q [.pointer (some ⟨p, 0, none⟩), .pointer (some ⟨p, 0, none⟩), .pointer (some ⟨p, 0, none⟩), .pointer (some ⟨p, 4, none⟩)] ?_))))))))
  refine K.d (.int .i64 S.when_) ((hS.blk 0 rfl hgp).cell rfl) ?_
  refine K.q [.int .i64 S.when_] (K.z (K.t (K.r ?_)))
  refine ⟨.inr rfl, rfl, (.int .i64 S.when_), K.res1 rfl rfl, [gp], ?_, hS.pick [0, 1]⟩
  exact ⟨congrArg (Value.int .i64) (if_pos (by omega)).symm, rfl⟩
 ·
  refine K.yn (S.pc : Int) (4 : Int) h_1 ?_
  refine K.q [.bool true] (K.z (K.t (K.h (K.s (K.g (K.q [.int .i64 (-1)] (K.z (K.t (K.r (K.u ?_))))))))))
  refine ⟨.inr rfl, rfl, (.int .i64 (-1)), K.res1 rfl rfl, [gp], ?_, hS.pick [0, 1]⟩
  exact ⟨congrArg (Value.int .i64) (if_neg (by omega)).symm, rfl⟩
set_option maxHeartbeats 1000000 in
set_option maxRecDepth 100000 in
theorem sePut_ok (w0 : World) (p : Nat) (S : SeS) (gp : K.Cs) (hgp : gp = sePt p S) :
  K.GC Tryz.prog w0 212 #[.pointer (some ⟨p, 0, none⟩)] [gp] (fun v post => v = .bool S.put ∧ post = [gp]) := by
 refine K.GC.mk (n := 11) Tryz.func212 rfl rfl [.pointer (some ⟨p, 0, none⟩)] rfl rfl ?_
 intro fr w hS
 replace hS : K.Sat w0 [gp, fr] w := hS
 refine K.s (K.g (K.q [.bool false] (K.z (K.t (K.s (K.g (K.q [.pointer (some ⟨p, 0, none⟩), .bool true, .bool true, .pointer (some ⟨p, 0, none⟩), .pointer (some ⟨p, 0, none⟩), .pointer (some ⟨p, 6, none⟩)] ?_)))))))
 refine K.d (.bool S.put) ((hS.blk 0 rfl hgp).cell rfl) ?_
 refine K.q [.bool S.put, .bool S.put] (K.z (K.t (K.r ?_)))
 refine ⟨.inr rfl, rfl, (.bool S.put), K.res1 rfl rfl, [gp], ?_, hS.pick [0, 1]⟩
 exact ⟨rfl, rfl⟩
set_option maxHeartbeats 1000000 in
set_option maxRecDepth 100000 in
theorem seWhen_ok (w0 : World) (p : Nat) (S : SeS) (gp : K.Cs) (hgp : gp = sePt p S) :
  K.GC Tryz.prog w0 213 #[.pointer (some ⟨p, 0, none⟩)] [gp] (fun v post => v = .int .i64 S.when_ ∧ post = [gp]) := by
 refine K.GC.mk (n := 10) Tryz.func213 rfl rfl [.pointer (some ⟨p, 0, none⟩)] rfl rfl ?_
 intro fr w hS
 replace hS : K.Sat w0 [gp, fr] w := hS
 refine K.s (K.g (K.q [.int .i64 0] (K.z (K.t (K.s (K.s (K.g (K.q [.pointer (some ⟨p, 0, none⟩), .bool false] (K.z (K.t (K.f (K.k (K.t (K.s ?_))))))))))))))
 refine K.g (K.q [.pointer (some ⟨p, 0, none⟩), .pointer (some ⟨p, 0, none⟩), .pointer (some ⟨p, 0, none⟩), .pointer (some ⟨p, 4, none⟩)] ?_)
 refine K.d (.int .i64 S.when_) ((hS.blk 0 rfl hgp).cell rfl) ?_
 refine K.q [.int .i64 S.when_] (K.z (K.t (K.r ?_)))
 refine ⟨.inr rfl, rfl, (.int .i64 S.when_), K.res1 rfl rfl, [gp], ?_, hS.pick [0, 1]⟩
 exact ⟨rfl, rfl⟩
end Go.Proofs.YtbfafebfkdbglaaGreat
