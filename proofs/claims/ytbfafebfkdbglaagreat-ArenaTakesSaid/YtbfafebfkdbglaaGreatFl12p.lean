import Derived.Test.YtbfafebfkdbglaaGreatFl4
import Derived.Test.YtbfafebfkdbglaaGreatFtk2
/- The statements of layer 4. -/
namespace Go.Proofs.YtbfafebfkdbglaaGreat
open Go.RowKit
set_option linter.unusedVariables false
attribute [local irreducible] K.KW K.RW K.DW K.OW K.QR K.KC
theorem DevM.ok.mark {D : DevM} {n t k q : Nat} (h : D.ok n t) (hk : k < t) : (D.mark k q).ok n t := h.set (by rw [List.length_set]; exact h.getB hk)
theorem DevM.ok.fence {D : DevM} {n t k : Nat} (h : D.ok n t) (hk : k < t) : (D.fence k).ok n t := by
 have hB := h.getB hk
 rw [fence_eq]
 exact DevM.ok.set (backsTo_ok h _ (by omega)) (by rw [List.length_replicate]; exact hB)
theorem DevM.ok.crash {D : DevM} {n t : Nat} (h : D.ok n t) : D.crash.ok n t :=
 ⟨h.1, h.1, h.2.2.1, by unfold DevM.crash; simpa using h.2.2.2.1, fun B hB => by obtain ⟨B0, h0, rfl⟩ := List.mem_map.1 hB; unfold clr; rw [List.length_replicate]; exact h.2.2.2.2.1 B0 h0, h.2.2.2.2.2⟩
theorem RowsG.one {α : Type} {p : K.Cs → Value → α → Prop} {g : K.Cs} {v : Value} {B : α} (h : p g v B) : RowsG p g [v] [B] := ⟨[g], by simp, h, trivial⟩
end Go.Proofs.YtbfafebfkdbglaaGreat

/- Layer 12: several threads that take and give back: the plain law. -/
namespace Go.Proofs.YtbfafebfkdbglaaGreat
open Go.RowKit
set_option linter.unusedVariables false
attribute [local irreducible] K.KW K.RW K.DW K.OW K.QR K.KC
section
variable {n nt : Nat} {M : MemM} {th i j w old : Int}
end
def rangeI (m : Nat) : List Int := (List.range m).map fun (i : Nat) => (i : Int)
theorem rangeI_succ (m : Nat) : rangeI (m + 1) = rangeI m ++ [(m : Int)] := by unfold rangeI; rw [List.range_succ, List.map_append]; rfl
theorem rangeI_len (m : Nat) : (rangeI m).length = m := by simp [rangeI]
inductive HandM where
 | nil
 | pop (S : PopS)
 | push (S : PushS)
def HandM.held : HandM → Int
 | .nil => -1
 | .pop _ => -1
 | .push S => S.slot
def HandM.good : HandM → Prop
 | .nil => True
 | .pop S => S.good
 | .push S => S.good
section
variable {c : Cfg} {M M' : MemM} {th i w old : Int}
end
inductive HandA where
 | nil
 | tk (S : TkS)
 | gv (S : GvS)
def HandA.abs : HandA → HandM
 | .nil => .nil
 | .tk S => if S.part = 1 ∨ S.part = 4 then .pop S.pop else if S.part = 2 ∨ S.part = 3 then .pop ⟨S.t, 0, 0, 0, -1⟩ else .push ⟨S.t, 0, 0, S.slot⟩
 | .gv S => if S.part = 1 then .push ⟨S.t, 0, 0, S.slot⟩ else .push S.push
def HandA.held (h : HandA) : Int := h.abs.held
def HandA.ok (c : Cfg) (t : Int) : HandA → Prop
 | .nil => False
 | .tk S => S.t = t ∧ S.good c ∧ isInt S.pop.slot ∧ ¬ S.part = 0 ∧ (S.part = 3 → S.rc.t = t ∧ (S.rc.pc = 0 ∨ S.rc.pc = 1))
 | .gv S => S.t = t ∧ S.good ∧ ¬ S.part = 0 ∧ (S.part = 2 → S.push.slot = S.slot)
section
variable {c : Cfg} {hs : List HandA} {M M' : MemM} {L L' : List Int} {j k : Nat} {h0 h2 : HandA}
end
end Go.Proofs.YtbfafebfkdbglaaGreat
