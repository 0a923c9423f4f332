import Derived.Test.YtnehocjmgnhhhaaFrun
/- Witness: what the statements call: Same, few. -/
namespace Go.Proofs.Ytnehocjmgnhhhaa
open Go.RowKit
set_option linter.unusedVariables false
attribute [local irreducible] K.KW K.RW K.DW K.OW K.QR K.KC
theorem rdz (w0 : World) (g : K.Cs) : RdSt w0 g none none none 0 st0 := ⟨fun _ _ => K.RowE.zero _ _ _ _, fun _ _ => K.RowE.zero _ _ _ _, fun _ _ => K.RowE.zero _ _ _ _, Nat.le_refl _⟩
theorem sameS_ok (w0 : World) (q s m q' s' m' : Option Addr) (cq cs cm cq' cs' cm' : Nat) (S T : StM) (g : K.Cs) (x : RdSt w0 g q s m cq S) (y : RdSt w0 g q' s' m' cq' T) (h1 : S.q.length ≤ 1000) (h2 : S.s.length ≤ 1000) (h3 : S.m.length ≤ 1000) :
  K.GC Try.prog w0 17 #[stA q cq s cs m cm S, stA q' cq' s' cs' m' cm' T] [g] (fun v post => post = [g] ∧ ((S = T ∧ v = .bool true) ∨ (¬ S = T ∧ v = .bool false))) := fun fr w hS => by
 obtain ⟨qa, sa, ma⟩ := S
 obtain ⟨qb, sb, mb⟩ := T
 obtain ⟨x1, x2, x3, _⟩ := x
 obtain ⟨y1, y2, y3, _⟩ := y
 refine K.KC.mono (same8_ok q s m q' s' m' cq cs cm cq' cs' cm' qa sa qb sb ma mb w h1 h2 h3 (x1 _ (hS.pick [0])) (x2 _ (hS.pick [0])) (x3 _ (hS.pick [0])) (y1 _ (hS.pick [0])) (y2 _ (hS.pick [0])) (y3 _ (hS.pick [0]))) ?_
 rintro v w' ⟨rfl, hch⟩
 refine ⟨[g], ⟨rfl, ?_⟩, hS.no hch⟩
 by_cases h : qa = qb ∧ sa = sb ∧ ma = mb
 ·exact .inl ⟨by rw [h.1, h.2.1, h.2.2], congrArg Value.bool (decide_eq_true h)⟩
 ·exact .inr ⟨fun e => h (by simpa using e), congrArg Value.bool (decide_eq_false h)⟩
theorem right_kind {L : List CallM} (h : rightH L) : ∀ i, i < L.length → 1 ≤ (L.getD i call0).ok ∧ (L.getD i call0).ok ≤ 8 := fun i hi => (h i hi).1.1.1
end Go.Proofs.Ytnehocjmgnhhhaa
