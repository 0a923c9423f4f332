/- Layer 7: an act on both memories; are they one? -/
import Derived.Test.YtbfafebfkdbglaaGreatFl4
import Derived.Test.YtbfafebfkdbglaaGreatFpm4
import Derived.Test.YtbfafebfkdbglaaGreatKn
namespace Go.Proofs.YtbfafebfkdbglaaGreat
open Go.RowKit
set_option linter.unusedVariables false
attribute [local irreducible] K.KW K.RW K.DW K.OW K.QR K.KC
/-- something that is done to a memory -/
structure ActP where
 kind : Int
 thread : Int
 at_ : Int
 old : Int
 w : Int
def ActP.good (a : ActP) : Prop := isInt a.kind ∧ isInt a.thread ∧ isInt a.at_
theorem mdSeen_ok (w0 : World) (p q n t : Nat) (M : MemM) (l : K.Cs) (x : MemAt l p q n t M) :
  K.GC Tryz.prog w0 68 #[.pointer (some ⟨q, 0, none⟩)] [l] (fun v post => ∃ r c l2, v = .slice r M.dev.seen.length c ∧ post = [l, l2] ∧ K.OwnG l2 57 1 r M.dev.seen.length c (M.dev.seen.flatMap cU64)) := by
 obtain ⟨mg, mp, md, pa, np, cp, rfl, hmg, hmp, hmd, hnp, hn18⟩ := x
 refine (K.GC.in3 (dvSeen_ok w0 q n t M.dev md hmd) (by rintro v post ⟨_, _, _, _, rfl, _⟩; exact ⟨_, _, rfl⟩)).mono ?_
 rintro v post ⟨md', rest, ⟨r, c, l2, rfl, h, ho⟩, rfl⟩
 cases h
 exact ⟨r, c, l2, rfl, rfl, ho⟩
end Go.Proofs.YtbfafebfkdbglaaGreat
