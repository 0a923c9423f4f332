/- The device: what it does. -/
import Derived.Test.YtajkickofkeemaaFdv3
import Derived.Test.YtajkickofkeemaaKn
namespace Go.Proofs.Ytajkickofkeemaa
open Go.RowKit
set_option linter.unusedVariables false
attribute [local irreducible] K.KW K.RW K.DW K.OW K.QR K.KC
theorem SetsG.same {z z' : K.Cs} {vs vs' : List Value} {Bs Bs' : List (List Bool)} (h : SetsG z vs Bs) (h1 : z = z') (h2 : vs = vs') (h3 : Bs = Bs') : SetsG z' vs' Bs' := by subst h1 h2 h3; exact h
set_option maxHeartbeats 1000000 in
set_option maxRecDepth 100000 in
theorem dvStore_ok (w0 : World) (p n t : Nat) (D : DevM) (l : K.Cs) (x : DevAt l p n t D) (i : Int) (hi : isInt i) (y : Int) :
  K.GC Try.prog w0 105 #[.pointer (some ⟨p, 0, none⟩), .int .i64 i, .int .u64 y] [l] (fun v post => (v = .int .i64 0 ∧ (0 ≤ i ∧ i < n * 8) ∧ ∃ l', post = [l'] ∧ DevAt l' p n t (D.store i.toNat y)) ∨ (v = .int .i64 5 ∧ ¬(0 ≤ i ∧ i < n * 8) ∧ post = [l])) := by
 refine K.GC.mk (n := 25) Try.func105 rfl rfl [.pointer (some ⟨p, 0, none⟩), .int .i64 i, .int .u64 y] rfl rfl ?_
 intro fr w hS
 replace hS : K.Sat w0 [l, fr] w := hS
 refine K.s (K.g (K.q [.int .i64 0] (K.z (K.t (K.s (K.s (K.g (K.q [.pointer (some ⟨p, 0, none⟩), .int .i64 i] ?_))))))))
 refine K.l (K.OW.gcall hS [0] [1] [.pointer (some ⟨p, 0, none⟩), .int .i64 i] (dvWord_ok _ _ _ _ _ _ x i (by omega)) ?_)
 clear hS; rintro _ _ w ⟨rfl, (⟨rfl, h_1⟩ | ⟨rfl, h_2⟩)⟩ hS
 ·
  replace hS : K.Sat w0 [l, fr] w := hS
  refine K.q [.int .i64 0] (K.z (K.t (K.s (K.g (K.q [.int .i64 0, .bool false] (K.z (K.t (K.f (K.k (K.t (K.s ?_)))))))))))
  obtain ⟨g, gk, gs, gw, gf, gz, vs, ka, sa, wa, fa, ck, cs, cw, cf, rfl, hg, ok, os, ow, of, lv, oz, dk⟩ := x
  have dk2 := dk; obtain ⟨lk, ls, lw, lf, lB, n0, n1, t0, t1⟩ := dk2
  replace hS : K.Sat w0 [g, gk, gs, gw, gf, gz, fr] w := hS.of
  refine K.g (K.q [.pointer (some ⟨p, 0, none⟩), .pointer (some ⟨p, 0, none⟩), .pointer (some ⟨p, 1, none⟩)] ?_)
  refine K.d (.slice sa n cs) ((hS.blk 0 rfl hg).cell rfl) ?_
  refine K.q [.int .i64 i] ?_
  refine K.a (K.QR.turn (v := .int .i64 ((i : Int) / 8)) (K.QR.quoi64 (i : Int) 8 ((i : Int) / 8) (by kernel_rfl) (by omega) (by omega)) (congrArg (Value.int .i64) (show ((i : Int) / 8 : Int) = (((i.toNat / 8 : Nat) : Int) : Int) from by omega))) ?_
  refine K.q [.int .i64 i] ?_
  refine K.a (K.QR.turn (v := .int .i64 ((i : Int) % 8)) (K.QR.remi64 (i : Int) 8 ((i : Int) % 8) (by kernel_rfl) (by omega) (by omega)) (congrArg (Value.int .i64) (show ((i : Int) % 8 : Int) = (((i.toNat % 8 : Nat) : Int) : Int) from by omega))) ?_
  refine K.q [.int .u64 y] ?_
  obtain ⟨b_3, rfl⟩ := os.some_ (by have := os.le; omega)
  refine K.a (K.QR.ix (0 + (i.toNat / 8) * 8) 8 rfl rfl rfl Try.underlying141 (by kernel_rfl) (by omega) (by first | (simp; done) | omega | (simp; omega))) ?_
  refine K.a (K.QR.ixA (0 + (i.toNat / 8) * 8 + (i.toNat % 8)) 1 rfl rfl rfl Try.underlying158 (by kernel_rfl) (by omega) (by first | (simp; done) | omega | (simp; omega))) ?_
  refine K.l (K.OW.grst 2 (0 + (i.toNat / 8) * 8 + (i.toNat % 8)) [.int .u64 y] (((D.seen.set (0 + (i.toNat / 8) * 8 + (i.toNat % 8)) y)).flatMap cU64) hS os ?_ (by show _ + 1 ≤ _; omega) (K.set1 (c := cU64) D.seen (0 + (i.toNat / 8) * 8 + (i.toNat % 8)) y (by have := ls; omega)))
  clear hS; intro w l_5 o_6 hS
  have ln_7 : ((D.seen.set (0 + (i.toNat / 8) * 8 + (i.toNat % 8)) y)).length = _ := (List.length_set).trans ls
  replace hS : K.Sat w0 [g, gk, l_5, gw, gf, gz, fr] w := hS
  refine K.z (K.t (K.s (K.g (K.q [.int .i64 0] (K.z (K.t (K.r ?_)))))))
  rw [show 0 + i.toNat / 8 * 8 + i.toNat % 8 = i.toNat by omega] at o_6
  replace hS : K.Sat w0 [[g, gk, l_5, gw, gf, gz].flatten, fr] w := (hS.pick [0, 1, 2, 3, 4, 5, 6]).of
  refine ⟨.inr rfl, rfl, (.int .i64 0), K.res1 rfl rfl, [[g, gk, l_5, gw, gf, gz].flatten], ?_, hS.pick [0, 1]⟩
  exact .inl ⟨rfl, by omega, _, rfl, ⟨_, _, _, _, _, _, _, _, _, _, _, _, _, _, _, rfl, hg, ok, o_6, ow, of, lv, oz, dk.store⟩⟩
 ·
  replace hS : K.Sat w0 [l, fr] w := hS
  refine K.q [.int .i64 5] (K.z (K.t (K.s (K.g (K.q [.int .i64 5, .bool true] (K.z (K.t (K.h (K.s (K.g (K.q [.int .i64 5, .int .i64 5] (K.z (K.t (K.r ?_))))))))))))))
  refine K.u ?_
  refine ⟨.inr rfl, rfl, (.int .i64 5), K.res1 rfl rfl, [l], ?_, hS.pick [0, 1]⟩
  exact .inr ⟨rfl, by omega, rfl⟩
end Go.Proofs.Ytajkickofkeemaa
