/- The device: its methods. -/
import Derived.Test.YtajkickofkeemaaFdv2
import Derived.Test.YtajkickofkeemaaKn
namespace Go.Proofs.Ytajkickofkeemaa
open Go.RowKit
set_option linter.unusedVariables false
attribute [local irreducible] K.KW K.RW K.DW K.OW K.QR K.KC
set_option maxHeartbeats 1000000 in
set_option maxRecDepth 100000 in
theorem dvLoad_ok (w0 : World) (p n t : Nat) (D : DevM) (l : K.Cs) (x : DevAt l p n t D) (i : Int) (hi : isInt i) :
  K.GC Try.prog w0 55 #[.pointer (some ⟨p, 0, none⟩), .int .i64 i] [l] (fun v post => post = [l] ∧ ((v = .tuple #[.int .u64 (D.seen.getD i.toNat 0), .int .i64 0] ∧ 0 ≤ i ∧ i < n * 8) ∨ (v = .tuple #[.int .u64 0, .int .i64 5] ∧ ¬(0 ≤ i ∧ i < n * 8)))) := by
 refine K.GC.mk (n := 24) Try.func55 rfl rfl [.pointer (some ⟨p, 0, none⟩), .int .i64 i] rfl rfl ?_
 intro fr w hS
 replace hS : K.Sat w0 [l, fr] w := hS
 refine K.s (K.g (K.q [.int .u64 0, .int .i64 0] (K.z (K.t (K.s (K.s (K.g (K.q [.pointer (some ⟨p, 0, none⟩), .int .i64 i] ?_))))))))
 refine K.l (K.OW.gcall hS [0] [1] [.pointer (some ⟨p, 0, none⟩), .int .i64 i] (dvWord_ok _ _ _ _ _ _ x i (by omega)) ?_)
 clear hS; rintro _ _ w ⟨rfl, (⟨rfl, h_1⟩ | ⟨rfl, h_2⟩)⟩ hS
 ·
  replace hS : K.Sat w0 [l, fr] w := hS
  refine K.q [.int .i64 0] (K.z (K.t (K.s (K.g (K.q [.int .i64 0, .bool false] (K.z (K.t (K.f (K.k (K.t (K.s ?_)))))))))))
  obtain ⟨g, gk, gs, gw, gf, gz, vs, ka, sa, wa, fa, ck, cs, cw, cf, rfl, hg, ok, os, ow, of, lv, oz, dk⟩ := x
  have dk2 := dk; obtain ⟨lk, ls, lw, lf, lB, n0, n1, t0, t1⟩ := dk2
  replace hS : K.Sat w0 [g, gk, gs, gw, gf, gz, fr] w := hS.of
  refine K.g (K.q [.pointer (some ⟨p, 0, none⟩), .pointer (some ⟨p, 0, none⟩), .pointer (some ⟨p, 1, none⟩)] ?_)
  refine K.d (.slice sa n cs) ((hS.blk 0 rfl hg).cell rfl) ?_
  refine K.q [.int .i64 i] ?_
  refine K.a (K.QR.turn (v := .int .i64 ((i : Int) / 8)) (K.QR.quoi64 (i : Int) 8 ((i : Int) / 8) (by kernel_rfl) (by omega) (by omega)) (congrArg (Value.int .i64) (show ((i : Int) / 8 : Int) = (((i.toNat / 8 : Nat) : Int) : Int) from by omega))) ?_
  refine K.q [.int .i64 i] ?_
  refine K.a (K.QR.turn (v := .int .i64 ((i : Int) % 8)) (K.QR.remi64 (i : Int) 8 ((i : Int) % 8) (by kernel_rfl) (by omega) (by omega)) (congrArg (Value.int .i64) (show ((i : Int) % 8 : Int) = (((i.toNat % 8 : Nat) : Int) : Int) from by omega))) ?_
  obtain ⟨b_3, rfl⟩ := os.some_ (by have := os.le; omega)
  refine K.a (K.QR.ix (0 + (i.toNat / 8) * 8) 8 rfl rfl rfl Try.underlying141 (by kernel_rfl) (by omega) (by first | (simp; done) | omega | (simp; omega))) ?_
  refine K.a (K.QR.ixA (0 + (i.toNat / 8) * 8 + (i.toNat % 8)) 1 rfl rfl rfl Try.underlying158 (by kernel_rfl) (by omega) (by first | (simp; done) | omega | (simp; omega))) ?_
  refine K.d (.int .u64 (D.seen.getD (0 + (i.toNat / 8) * 8 + (i.toNat % 8)) 0)) (K.Own.at1 (c := cU64) (d := 0) (fun _ => rfl) (hS.ownr 2 rfl os) ls (0 + (i.toNat / 8) * 8 + (i.toNat % 8)) (by omega)) ?_
  refine K.q [.int .u64 (D.seen.getD (0 + (i.toNat / 8) * 8 + (i.toNat % 8)) 0), .int .i64 0] (K.z (K.t (K.r ?_)))
  replace hS : K.Sat w0 [[g, gk, gs, gw, gf, gz].flatten, fr] w := (hS.pick [0, 1, 2, 3, 4, 5, 6]).of
  refine ⟨.inr rfl, rfl, (.tuple #[.int .u64 (D.seen.getD (0 + (i.toNat / 8) * 8 + (i.toNat % 8)) 0), .int .i64 0]), K.res2 rfl rfl rfl, [[g, gk, gs, gw, gf, gz].flatten], ?_, hS.pick [0, 1]⟩
  exact ⟨rfl, .inl ⟨by rw [show 0 + i.toNat / 8 * 8 + i.toNat % 8 = i.toNat by omega], by omega⟩⟩
 ·
  replace hS : K.Sat w0 [l, fr] w := hS
  refine K.q [.int .i64 5] (K.z (K.t (K.s (K.g (K.q [.int .i64 5, .bool true] (K.z (K.t (K.h (K.s (K.g (K.q [.int .i64 5, .int .u64 0, .int .i64 5] (K.z (K.t (K.r ?_))))))))))))))
  refine K.u ?_
  refine ⟨.inr rfl, rfl, (.tuple #[.int .u64 0, .int .i64 5]), K.res2 rfl rfl rfl, [l], ?_, hS.pick [0, 1]⟩
  exact ⟨rfl, .inr ⟨rfl, by omega⟩⟩
set_option maxHeartbeats 1000000 in
set_option maxRecDepth 100000 in
theorem dvSeen_ok (w0 : World) (p n t : Nat) (D : DevM) (l : K.Cs) (x : DevAt l p n t D) :
  K.GC Try.prog w0 50 #[.pointer (some ⟨p, 0, none⟩)] [l] (fun v post => ∃ r c l2, v = .slice r D.seen.length c ∧ post = [l, l2] ∧ K.OwnG l2 32 1 r D.seen.length c (D.seen.flatMap cU64)) := by
 refine K.GC.mk (n := 10) Try.func50 rfl rfl [.pointer (some ⟨p, 0, none⟩)] rfl rfl ?_
 intro fr w hS
 replace hS : K.Sat w0 [l, fr] w := hS
 refine K.s (K.g (K.q [.slice none 0 0] (K.z (K.t (K.s (K.s (K.g (K.q [.pointer (some ⟨p, 0, none⟩), .bool false] (K.z (K.t (K.f (K.k (K.t (K.s ?_))))))))))))))
 obtain ⟨g, gk, gs, gw, gf, gz, vs, ka, sa, wa, fa, ck, cs, cw, cf, rfl, hg, ok, os, ow, of, lv, oz, dk⟩ := x
 have dk2 := dk; obtain ⟨lk, ls, lw, lf, lB, n0, n1, t0, t1⟩ := dk2
 replace hS : K.Sat w0 [g, gk, gs, gw, gf, gz, fr] w := hS.of
 refine K.g (K.q [.pointer (some ⟨p, 0, none⟩), .pointer (some ⟨p, 0, none⟩), .pointer (some ⟨p, 1, none⟩)] ?_)
 refine K.d (.slice sa n cs) ((hS.blk 0 rfl hg).cell rfl) ?_
 refine K.l (K.OW.kcall hS [.slice sa n cs] (wordsW_ok _ _ _ _ D.seen _ (by omega) ls (hS.ownr 2 rfl os)) ?_)
 rintro _ w ⟨r_1, cc_2, rfl, c_3, o_4⟩
 obtain ⟨l_5, o_6, hS⟩ := hS.rnew c_3 o_4 (by omega)
 refine K.q [.slice r_1 D.seen.length cc_2] (K.z (K.t (K.r ?_)))
 replace hS : K.Sat w0 [[g, gk, gs, gw, gf, gz].flatten, l_5, fr] w := (hS.pick [1, 2, 3, 4, 5, 6, 0, 7]).of
 refine ⟨.inr rfl, rfl, (.slice r_1 D.seen.length cc_2), K.res1 rfl rfl, [[g, gk, gs, gw, gf, gz].flatten, l_5], ?_, hS.pick [0, 1, 2]⟩
 exact ⟨_, _, _, rfl, rfl, o_6⟩
end Go.Proofs.Ytajkickofkeemaa
