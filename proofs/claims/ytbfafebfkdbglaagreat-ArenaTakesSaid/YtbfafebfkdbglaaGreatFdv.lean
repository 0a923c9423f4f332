import Derived.Test.YtbfafebfkdbglaaGreatKg
import Derived.Test.YtbfafebfkdbglaaGreatFlin2
import Derived.Test.YtbfafebfkdbglaaGreatFsl2
import Derived.Test.YtbfafebfkdbglaaGreatFlist
/- The device: what it is in memory; its small methods. -/
namespace Go.Proofs.YtbfafebfkdbglaaGreat
open Go.RowKit
set_option linter.unusedVariables false
attribute [local irreducible] K.KW K.RW K.DW K.OW K.QR K.KC
/-- a device: of each word what is kept and seen, of each line how often it was written back, of each thread and line whether it flushes it -/
structure DevM where
 kept : List Int
 seen : List Int
 writes : List Int
 flush : List (List Bool)
def truesF (k : Nat) : List Bool → List Int
 | [] => []
 | b :: B => if b then (k : Int) :: truesF (k + 1) B else truesF (k + 1) B
/-- the places of a list that are true -/
def trues (B : List Bool) : List Int := truesF 0 B
def cV (v : Value) : List Value := [v]
def DevM.ok (D : DevM) (n t : Nat) : Prop := D.kept.length = n * 8 ∧ D.seen.length = n * 8 ∧ D.writes.length = n ∧ D.flush.length = t ∧ (∀ B ∈ D.flush, B.length = n) ∧ 1 ≤ n ∧ n ≤ 262144 ∧ 1 ≤ t ∧ t ≤ 64
def SetG (g : K.Cs) (v : Value) (B : List Bool) : Prop := ∃ a c, v = .slice a (trues B).length c ∧ K.OwnG g 3 1 a (trues B).length c ((trues B).flatMap cI64)
def SetsAt : List K.Cs → List Value → List (List Bool) → Prop
 | [], [], [] => True
 | g :: gs, v :: vs, B :: Bs => SetG g v B ∧ SetsAt gs vs Bs
 | _, _, _ => False
def SetsG (z : K.Cs) (vs : List Value) (Bs : List (List Bool)) : Prop := ∃ gs, z = gs.flatten ∧ SetsAt gs vs Bs
def DevAt (l : K.Cs) (p n t : Nat) (D : DevM) : Prop :=
 ∃ (g gk gs gw gf gz : K.Cs) (vs : List Value) (ka sa wa fa : Option Addr) (ck cs cw cf : Nat), l = [g, gk, gs, gw, gf, gz].flatten ∧
  g = [K.pt p 180 [.slice ka n ck, .slice sa n cs, .slice wa n cw, .slice fa t cf]] ∧ K.OwnG gk 206 8 ka n ck (D.kept.flatMap cU64) ∧ K.OwnG gs 206 8 sa n cs (D.seen.flatMap cU64) ∧
  K.OwnG gw 3 1 wa n cw (D.writes.flatMap cI64) ∧ K.OwnG gf 234 1 fa t cf (vs.flatMap cV) ∧ vs.length = t ∧ SetsG gz vs D.flush ∧ D.ok n t
theorem DevAt.isok {l : K.Cs} {p n t : Nat} {D : DevM} (x : DevAt l p n t D) : D.ok n t := by
 obtain ⟨_, _, _, _, _, _, _, _, _, _, _, _, _, _, _, _, _, _, _, _, _, _, _, h⟩ := x; exact h
abbrev isInt (x : Int) : Prop := -9223372036854775808 ≤ x ∧ x ≤ 9223372036854775807
set_option maxHeartbeats 1000000 in
set_option maxRecDepth 100000 in
theorem dvWord_ok (w0 : World) (p n t : Nat) (D : DevM) (l : K.Cs) (x : DevAt l p n t D) (i : Int) (hi : isInt i) :
  K.GC Tryz.prog w0 139 #[K.pa p, K.iv i] [l] (fun v post => post = [l] ∧ ((v = K.iv 0 ∧ 0 ≤ i ∧ i < n * 8) ∨ (v = K.iv 5 ∧ ¬(0 ≤ i ∧ i < n * 8)))) := by
 refine K.GC.mk (n := 21) Tryz.func139 rfl rfl [K.pa p, K.iv i] rfl rfl ?_
 intro fr w hS
 replace hS : K.Sat w0 [l, fr] w := hS
 refine K.s (K.g (K.q [K.iv 0] (K.z (K.t (K.s ?_)))))
 refine K.KW.block ?_
 refine K.s (K.g (K.q [K.pa p, .bool false, .bool false] (K.z (K.t (K.f (K.s ?_))))))
 obtain ⟨g, gk, gs, gw, gf, gz, vs, ka, sa, wa, fa, ck, cs, cw, cf, rfl, hg, ok, os, ow, of, lv, oz, dk⟩ := x
 have dk2 := dk; obtain ⟨lk, ls, lw, lf, lB, n0, n1, t0, t1⟩ := dk2
 replace hS : K.Sat w0 [g, gk, gs, gw, gf, gz, fr] w := hS.of
 refine K.g (K.q [K.iv i] ?_)
 by_cases h_1 : (i : Int) < (0 : Int)
 ·
  refine K.y ((i : Int) < (0 : Int)) h_1 ?_
  refine K.q [.bool true] (K.n_ (K.n_ (K.n_ (K.n_ (K.n_ (K.n_ (K.n_ (K.n_ (K.q [.bool true, .bool true] (K.z (K.t (K.h (K.s (K.g ?_))))))))))))))
  refine K.q [K.iv 5] (K.z (K.t (K.r ?_)))
  refine K.blk_ret ?_
  refine K.u ?_
  replace hS : K.Sat w0 [[g, gk, gs, gw, gf, gz].flatten, fr] w := (hS.pick [0, 1, 2, 3, 4, 5, 6]).of
  refine ⟨.inr rfl, rfl, (K.iv 5), K.res1 rfl rfl, [[g, gk, gs, gw, gf, gz].flatten], ?_, hS.pick [0, 1]⟩
  exact ⟨rfl, .inr ⟨rfl, by omega⟩⟩
 ·
  refine K.x ((i : Int) < (0 : Int)) h_1 ?_
  refine K.q [.bool false, K.iv i] ?_
  refine K.a (K.QR.quoi64 (i : Int) 8 ((i : Int) / 8) (by kernel_rfl) (by omega) (by omega)) ?_
  refine K.q [K.pa p, K.pa p, .pointer (some ⟨p, 1, none⟩)] ?_
  refine K.d (.slice sa n cs) ((hS.blk 0 rfl hg).cell rfl) ?_
  refine K.a (K.QR.len (P := Tryz.prog) rfl rfl Tryz.underlying177) ?_
  by_cases h_2 : ((i : Int) / 8 : Int) ≥ (((n : Nat) : Int) : Int)
  ·
   refine K.y (((i : Int) / 8 : Int) ≥ (((n : Nat) : Int) : Int)) h_2 ?_
   refine K.q [.bool true, .bool true] (K.z (K.t (K.h (K.s (K.g (K.q [K.iv 5] (K.z (K.t (K.r ?_)))))))))
   refine K.blk_ret ?_
   refine K.u ?_
   replace hS : K.Sat w0 [[g, gk, gs, gw, gf, gz].flatten, fr] w := (hS.pick [0, 1, 2, 3, 4, 5, 6]).of
   refine ⟨.inr rfl, rfl, (K.iv 5), K.res1 rfl rfl, [[g, gk, gs, gw, gf, gz].flatten], ?_, hS.pick [0, 1]⟩
   exact ⟨rfl, .inr ⟨rfl, by omega⟩⟩
  ·
   refine K.x (((i : Int) / 8 : Int) ≥ (((n : Nat) : Int) : Int)) h_2 ?_
   refine K.q [.bool false, .bool false] (K.z (K.t (K.f (K.k ?_))))
   refine K.blk_normal ?_
   refine K.t (K.s (K.g (K.q [K.iv 0] (K.z (K.t (K.r ?_))))))
   replace hS : K.Sat w0 [[g, gk, gs, gw, gf, gz].flatten, fr] w := (hS.pick [0, 1, 2, 3, 4, 5, 6]).of
   refine ⟨.inr rfl, rfl, (K.iv 0), K.res1 rfl rfl, [[g, gk, gs, gw, gf, gz].flatten], ?_, hS.pick [0, 1]⟩
   exact ⟨rfl, .inl ⟨rfl, by omega⟩⟩
set_option maxHeartbeats 1000000 in
set_option maxRecDepth 100000 in
theorem dvLine_ok (w0 : World) (p n t : Nat) (D : DevM) (l : K.Cs) (x : DevAt l p n t D) (i : Int) (hi : isInt i) :
  K.GC Tryz.prog w0 133 #[K.pa p, K.iv i] [l] (fun v post => post = [l] ∧ ((v = K.iv 0 ∧ 0 ≤ i ∧ i < n) ∨ (v = K.iv 5 ∧ ¬(0 ≤ i ∧ i < n)))) := by
 refine K.GC.mk (n := 20) Tryz.func133 rfl rfl [K.pa p, K.iv i] rfl rfl ?_
 intro fr w hS
 replace hS : K.Sat w0 [l, fr] w := hS
 refine K.s (K.g (K.q [K.iv 0] (K.z (K.t (K.s ?_)))))
 refine K.KW.block ?_
 refine K.s (K.g (K.q [K.pa p, .bool false, .bool false] (K.z (K.t (K.f (K.s ?_))))))
 obtain ⟨g, gk, gs, gw, gf, gz, vs, ka, sa, wa, fa, ck, cs, cw, cf, rfl, hg, ok, os, ow, of, lv, oz, dk⟩ := x
 have dk2 := dk; obtain ⟨lk, ls, lw, lf, lB, n0, n1, t0, t1⟩ := dk2
 replace hS : K.Sat w0 [g, gk, gs, gw, gf, gz, fr] w := hS.of
 refine K.g (K.q [K.iv i] ?_)
 by_cases h_1 : (i : Int) < (0 : Int)
 ·
  refine K.y ((i : Int) < (0 : Int)) h_1 ?_
  refine K.q [.bool true] (K.n_ (K.n_ (K.n_ (K.n_ (K.n_ (K.n_ (K.n_ (K.q [.bool true, .bool true] (K.z (K.t (K.h (K.s (K.g (K.q [K.iv 5] ?_))))))))))))))
  refine K.z (K.t (K.r ?_))
  refine K.blk_ret ?_
  refine K.u ?_
  replace hS : K.Sat w0 [[g, gk, gs, gw, gf, gz].flatten, fr] w := (hS.pick [0, 1, 2, 3, 4, 5, 6]).of
  refine ⟨.inr rfl, rfl, (K.iv 5), K.res1 rfl rfl, [[g, gk, gs, gw, gf, gz].flatten], ?_, hS.pick [0, 1]⟩
  exact ⟨rfl, .inr ⟨rfl, by omega⟩⟩
 ·
  refine K.x ((i : Int) < (0 : Int)) h_1 ?_
  refine K.q [.bool false, K.iv i, K.pa p, K.pa p, .pointer (some ⟨p, 1, none⟩)] ?_
  refine K.d (.slice sa n cs) ((hS.blk 0 rfl hg).cell rfl) ?_
  refine K.a (K.QR.len (P := Tryz.prog) rfl rfl Tryz.underlying177) ?_
  by_cases h_2 : (i : Int) ≥ (((n : Nat) : Int) : Int)
  ·
   refine K.y ((i : Int) ≥ (((n : Nat) : Int) : Int)) h_2 ?_
   refine K.q [.bool true, .bool true] (K.z (K.t (K.h (K.s (K.g (K.q [K.iv 5] (K.z (K.t (K.r ?_)))))))))
   refine K.blk_ret ?_
   refine K.u ?_
   replace hS : K.Sat w0 [[g, gk, gs, gw, gf, gz].flatten, fr] w := (hS.pick [0, 1, 2, 3, 4, 5, 6]).of
   refine ⟨.inr rfl, rfl, (K.iv 5), K.res1 rfl rfl, [[g, gk, gs, gw, gf, gz].flatten], ?_, hS.pick [0, 1]⟩
   exact ⟨rfl, .inr ⟨rfl, by omega⟩⟩
  ·
   refine K.x ((i : Int) ≥ (((n : Nat) : Int) : Int)) h_2 ?_
   refine K.q [.bool false, .bool false] (K.z (K.t (K.f (K.k ?_))))
   refine K.blk_normal ?_
   refine K.t (K.s (K.g (K.q [K.iv 0] (K.z (K.t (K.r ?_))))))
   replace hS : K.Sat w0 [[g, gk, gs, gw, gf, gz].flatten, fr] w := (hS.pick [0, 1, 2, 3, 4, 5, 6]).of
   refine ⟨.inr rfl, rfl, (K.iv 0), K.res1 rfl rfl, [[g, gk, gs, gw, gf, gz].flatten], ?_, hS.pick [0, 1]⟩
   exact ⟨rfl, .inl ⟨rfl, by omega⟩⟩
set_option maxHeartbeats 1000000 in
set_option maxRecDepth 100000 in
theorem dvThread_ok (w0 : World) (p n t : Nat) (D : DevM) (l : K.Cs) (x : DevAt l p n t D) (i : Int) (hi : isInt i) :
  K.GC Tryz.prog w0 171 #[K.pa p, K.iv i] [l] (fun v post => post = [l] ∧ ((v = K.iv 0 ∧ 0 ≤ i ∧ i < t) ∨ (v = K.iv 1 ∧ ¬(0 ≤ i ∧ i < t)))) := by
 refine K.GC.mk (n := 20) Tryz.func171 rfl rfl [K.pa p, K.iv i] rfl rfl ?_
 intro fr w hS
 replace hS : K.Sat w0 [l, fr] w := hS
 refine K.s (K.g (K.q [K.iv 0] (K.z (K.t (K.s (K.s ?_))))))
 obtain ⟨g, gk, gs, gw, gf, gz, vs, ka, sa, wa, fa, ck, cs, cw, cf, rfl, hg, ok, os, ow, of, lv, oz, dk⟩ := x
 have dk2 := dk; obtain ⟨lk, ls, lw, lf, lB, n0, n1, t0, t1⟩ := dk2
 replace hS : K.Sat w0 [g, gk, gs, gw, gf, gz, fr] w := hS.of
 refine K.g (K.q [K.pa p, .bool false, .bool false, K.iv i] ?_)
 by_cases h_1 : (i : Int) < (0 : Int)
 ·
  refine K.y ((i : Int) < (0 : Int)) h_1 ?_
  refine K.q [.bool true, .bool true] (K.n_ (K.n_ (K.n_ (K.n_ (K.n_ (K.n_ (K.n_ (K.q [.bool true] (K.z (K.t (K.h (K.s (K.g (K.q [K.iv 1] ?_))))))))))))))
  refine K.z (K.t (K.r (K.u ?_)))
  replace hS : K.Sat w0 [[g, gk, gs, gw, gf, gz].flatten, fr] w := (hS.pick [0, 1, 2, 3, 4, 5, 6]).of
  refine ⟨.inr rfl, rfl, (K.iv 1), K.res1 rfl rfl, [[g, gk, gs, gw, gf, gz].flatten], ?_, hS.pick [0, 1]⟩
  exact ⟨rfl, .inr ⟨rfl, by omega⟩⟩
 ·
  refine K.x ((i : Int) < (0 : Int)) h_1 ?_
  refine K.q [.bool false, .bool false, K.iv i, K.pa p, K.pa p, .pointer (some ⟨p, 3, none⟩)] ?_
  refine K.d (.slice fa t cf) ((hS.blk 0 rfl hg).cell rfl) ?_
  refine K.a (K.QR.len (P := Tryz.prog) rfl rfl Tryz.underlying178) ?_
  by_cases h_2 : (i : Int) ≥ (((t : Nat) : Int) : Int)
  ·
   refine K.y ((i : Int) ≥ (((t : Nat) : Int) : Int)) h_2 ?_
   refine K.q [.bool true] (K.z (K.t (K.h (K.s (K.g (K.q [K.iv 1] (K.z (K.t (K.r (K.u ?_))))))))))
   replace hS : K.Sat w0 [[g, gk, gs, gw, gf, gz].flatten, fr] w := (hS.pick [0, 1, 2, 3, 4, 5, 6]).of
   refine ⟨.inr rfl, rfl, (K.iv 1), K.res1 rfl rfl, [[g, gk, gs, gw, gf, gz].flatten], ?_, hS.pick [0, 1]⟩
   exact ⟨rfl, .inr ⟨rfl, by omega⟩⟩
  ·
   refine K.x ((i : Int) ≥ (((t : Nat) : Int) : Int)) h_2 ?_
   refine K.q [.bool false] (K.z (K.t (K.f (K.k (K.t (K.s (K.g (K.q [K.iv 0] (K.z (K.t (K.r ?_)))))))))))
   replace hS : K.Sat w0 [[g, gk, gs, gw, gf, gz].flatten, fr] w := (hS.pick [0, 1, 2, 3, 4, 5, 6]).of
   refine ⟨.inr rfl, rfl, (K.iv 0), K.res1 rfl rfl, [[g, gk, gs, gw, gf, gz].flatten], ?_, hS.pick [0, 1]⟩
   exact ⟨rfl, .inl ⟨rfl, by omega⟩⟩
end Go.Proofs.YtbfafebfkdbglaaGreat
