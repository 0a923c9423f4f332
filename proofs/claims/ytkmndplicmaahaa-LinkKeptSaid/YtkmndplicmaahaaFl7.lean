/- Layer 7: an act on both memories; are they one? -/
import Derived.Test.YtkmndplicmaahaaFl4
import Derived.Test.YtkmndplicmaahaaFpm4
import Derived.Test.YtkmndplicmaahaaKn
namespace Go.Proofs.Ytkmndplicmaahaa
open Go.RowKit
set_option linter.unusedVariables false
attribute [local irreducible] K.KW K.RW K.DW K.OW K.QR K.KC
/-- something that is done to a memory -/
structure ActP where
 kind : Int
 thread : Int
 at_ : Int
 old : Int
 w : Int
def ActP.good (a : ActP) : Prop := isInt a.kind ∧ isInt a.thread ∧ isInt a.at_
theorem mdSeen_ok (w0 : World) (p q n t : Nat) (M : MemM) (l : K.Cs) (x : MemAt l p q n t M) :
  K.GC Try.prog w0 63 #[.pointer (some ⟨q, 0, none⟩)] [l] (fun v post => ∃ r c l2, v = .slice r M.dev.seen.length c ∧ post = [l, l2] ∧ K.OwnG l2 25 1 r M.dev.seen.length c (M.dev.seen.flatMap cU64)) := by
 obtain ⟨mg, mp, md, pa, np, cp, rfl, hmg, hmp, hmd, hnp, hn18⟩ := x
 refine (K.GC.in3 (dvSeen_ok w0 q n t M.dev md hmd) (by rintro v post ⟨_, _, _, _, rfl, _⟩; exact ⟨_, _, rfl⟩)).mono ?_
 rintro v post ⟨md', rest, ⟨r, c, l2, rfl, h, ho⟩, rfl⟩
 cases h
 exact ⟨r, c, l2, rfl, rfl, ho⟩
theorem mdKept_ok (w0 : World) (p q n t : Nat) (M : MemM) (l : K.Cs) (x : MemAt l p q n t M) :
  K.GC Try.prog w0 21 #[.pointer (some ⟨q, 0, none⟩)] [l] (fun v post => ∃ r c l2, v = .slice r M.dev.kept.length c ∧ post = [l, l2] ∧ K.OwnG l2 25 1 r M.dev.kept.length c (M.dev.kept.flatMap cU64)) := by
 obtain ⟨mg, mp, md, pa, np, cp, rfl, hmg, hmp, hmd, hnp, hn18⟩ := x
 refine (K.GC.in3 (dvKept_ok w0 q n t M.dev md hmd) (by rintro v post ⟨_, _, _, _, rfl, _⟩; exact ⟨_, _, rfl⟩)).mono ?_
 rintro v post ⟨md', rest, ⟨r, c, l2, rfl, h, ho⟩, rfl⟩
 cases h
 exact ⟨r, c, l2, rfl, rfl, ho⟩
theorem mdEvict_ok (w0 : World) (p q n t : Nat) (M : MemM) (l : K.Cs) (x : MemAt l p q n t M) (i : Int) (hi : isInt i) :
  K.GC Try.prog w0 32 #[.pointer (some ⟨q, 0, none⟩), .int .i64 i] [l] (fun v post => (v = .int .i64 0 ∧ (0 ≤ i ∧ i < n) ∧ ∃ l', post = [l'] ∧ MemAt l' p q n t { M with dev := M.dev.back i.toNat }) ∨ (v = .int .i64 5 ∧ ¬(0 ≤ i ∧ i < n) ∧ post = [l])) := by
 obtain ⟨mg, mp, md, pa, np, cp, rfl, hmg, hmp, hmd, hnp, hn18⟩ := x
 refine (K.GC.in3 (dvEvict_ok w0 q n t M.dev md hmd i hi) (by rintro v post (⟨_, _, _, rfl, _⟩ | ⟨_, _, rfl⟩) <;> exact ⟨_, _, rfl⟩)).mono ?_
 rintro v post ⟨md', rest, ⟨rfl, hr, l', h, hx⟩ | ⟨rfl, hr, h⟩, rfl⟩ <;> cases h
 ·exact .inl ⟨rfl, hr, _, rfl, _, _, _, _, _, _, rfl, hmg, hmp, hx, hnp, hn18⟩
 ·exact .inr ⟨rfl, hr, rfl⟩
end Go.Proofs.Ytkmndplicmaahaa
