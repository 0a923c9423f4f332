/- Layer 9: what is done between steps. -/
import Derived.Test.YtajkickofkeemaaGreatFl7
import Derived.Test.YtajkickofkeemaaGreatFl9
import Derived.Test.YtajkickofkeemaaGreatKn
import Derived.Test.YtajkickofkeemaaGreatFfr
namespace Go.Proofs.YtajkickofkeemaaGreat
open Go.RowKit
set_option linter.unusedVariables false
attribute [local irreducible] K.KW K.RW K.DW K.OW K.QR K.KC
structure PokeM where
 step : Bool
 act : ActP
def cPoke (p : PokeM) : List Value := .bool p.step :: cActP p.act
def pk0 : PokeM := ⟨false, ap0⟩
def DevM.words (D : DevM) : Prop := (∀ x ∈ D.seen, isW x) ∧ (∀ x ∈ D.kept, isW x)
theorem back_words {D : DevM} {k : Nat} (h : D.words) : (D.back k).words := ⟨h.1, fun x hx => by
 unfold DevM.back copyL at hx
 rcases List.mem_append.1 hx with hx | hx
 ·rcases List.mem_append.1 hx with hx | hx
  ·exact h.2 x ((List.take_sublist _ _).subset hx)
  ·exact h.1 x ((List.drop_sublist _ _).subset ((List.take_sublist _ _).subset hx))
 ·exact h.2 x ((List.drop_sublist _ _).subset hx)⟩
theorem backs_words : ∀ (l : List Int) (D : DevM), D.words → (l.foldl (fun D x => D.back x.toNat) D).words
 | [], _, h => h
 | x :: l, D, h => backs_words l _ (back_words h)
theorem fence_words {D : DevM} {k : Nat} (h : D.words) : (D.fence k).words := backs_words _ (D.clear k) h
theorem act7_good {M : MemM} {n t : Nat} {a : ActP} (h : M.good) (hw : isW a.w) : (act7 M n t a).good := by
 unfold act7
 split
 ·exact h
 split
 ·exact accS_good h hw
 split
 ·exact accW_good h hw
 split
 ·show MemM.good (MemM.count (if decide _ = true then _ else M) _ _)
  split
  ·exact h
  ·exact h
 split
 ·show MemM.good (MemM.count (if decide _ = true then _ else M) _ _)
  split
  ·have := fence_words (k := a.thread.toNat) (D := M.dev) h.2
   exact ⟨h.1, this⟩
  ·exact h
 split
 ·split
  ·have := back_words (k := a.at_.toNat) (D := M.dev) h.2
   exact ⟨h.1, this⟩
  ·exact h
 ·exact ⟨rep_W, h.2.2, h.2.2⟩
end Go.Proofs.YtajkickofkeemaaGreat
