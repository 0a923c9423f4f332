import Derived.Test.YtnehocjmgnhhhaaFin
/- Witness: what the ends of a search are. -/
namespace Go.Proofs.Ytnehocjmgnhhhaa
open Go.RowKit
set_option linter.unusedVariables false
attribute [local irreducible] K.KW K.RW K.DW K.OW K.QR K.KC
/-- an order of calls that may be, of those that are left -/
def goodU (L : List CallM) (U : List Bool) (o : List Int) : Prop :=
 o.Nodup ∧ (∀ x ∈ o, 0 ≤ x ∧ x < (L.length : Int) ∧ U.getD x.toNat false = false ∧ ¬ ((L.getD x.toNat call0).cr = true ∧ (L.getD x.toNat call0).wh = -1)) ∧
 o.Pairwise (fun x y => ¬ aheadH (L.getD y.toNat call0) (L.getD x.toNat call0)) ∧ ∀ k, k < L.length → U.getD k false = false → (k : Int) ∉ o → (L.getD k call0).cr = true
theorem cr_ahead {L : List CallM} (hr : rightH L) {k : Nat} (hk : k < L.length) (hc : (L.getD k call0).cr = true) (c : CallM) : ¬ aheadH (L.getD k call0) c := fun h => by
 rcases (hr k hk).1.2 with ⟨_, hb⟩ | ⟨h2, _⟩
 ·exact h.1 hb.1.1
 ·rw [hc] at h2; cases h2
theorem self_ahead {L : List CallM} (hr : rightH L) {k : Nat} (hk : k < L.length) : ¬ aheadH (L.getD k call0) (L.getD k call0) := fun h => by
 rcases (hr k hk).1.2 with ⟨_, hb⟩ | ⟨_, ha⟩
 ·exact h.1 hb.1.1
 ·have h1 := h.2
  obtain ⟨⟨_, a1, a2⟩, _⟩ := ha
  omega
theorem mem_ends {L : List CallM} (hr : rightH L) {T : StM} : ∀ (f : Nat) (S : StM) (U : List Bool), U.length = L.length → U.count false < f → (T ∈ endsN L f S U ↔ ∃ o, goodU L U o ∧ runN L S o = some T)
 | 0, _, _, _, h => by omega
 | f + 1, S, U, hU, hc => by
  have ih := mem_ends hr (T := T) f
  show T ∈ (_ ++ _ : List StM) ↔ _
  rw [List.mem_append, List.mem_flatMap]
  constructor
  ·rintro (⟨i, hi, hm⟩ | hm)
   ·have hi := List.mem_range.1 hi
    by_cases hg : goS L S U i
    ·rw [if_pos hg] at hm
     have hun : U.getD i false = false := hg.1.2
     have hcs := count_set (U := U) (i := i) (by omega) hun
     obtain ⟨o, ⟨g1, g2, g3, g4⟩, hrun⟩ := (ih (nxtT S (L.getD i call0)).1 (U.set i true) (by rw [List.length_set, hU]) (by omega)).1 hm
     have hno : ((i : Nat) : Int) ∉ o := fun hx => by
      have := (g2 _ hx).2.2.1
      rw [Int.toNat_natCast, bset_getD (by omega), if_pos rfl] at this; cases this
     have hU2 : ∀ k, (U.set i true).getD k false = false → U.getD k false = false := fun k hk => by
      rw [bset_getD (by omega)] at hk
      split at hk
      ·cases hk
      ·exact hk
     refine ⟨(i : Int) :: o, ⟨List.nodup_cons.2 ⟨hno, g1⟩, fun x hx => ?_, ?_, fun k hk hu hn => ?_⟩, ?_⟩
     ·rcases List.mem_cons.1 hx with rfl | hx
      ·rw [Int.toNat_natCast]; exact ⟨by omega, by omega, hun, hg.2.2⟩
      ·obtain ⟨a1, a2, a3, a4⟩ := g2 x hx
       exact ⟨a1, a2, hU2 _ a3, a4⟩
     ·refine List.pairwise_cons.2 ⟨fun y hy ha => ?_, g3⟩
      obtain ⟨a1, a2, a3, _⟩ := g2 y hy
      rw [Int.toNat_natCast] at ha
      exact hg.1.1 y.toNat (by omega) ⟨hU2 _ a3, ha⟩
     ·refine g4 k hk ?_ (fun hm => hn (List.mem_cons_of_mem _ hm))
      rw [bset_getD (by omega), if_neg (fun e => hn (by rw [← e]; exact List.mem_cons_self))]; exact hu
     ·show (if _ then _ else _) = _
      rw [Int.toNat_natCast, if_pos hg.2.1]; exact hrun
    ·rw [if_neg hg] at hm; simp at hm
   ·by_cases ho : overS L U
    ·rw [if_pos ho, List.mem_singleton] at hm
     subst hm
     refine ⟨[], ⟨List.nodup_nil, fun x hx => by simp at hx, List.Pairwise.nil, fun k hk hu _ => ?_⟩, rfl⟩
     have := ho k hk
     cases hcr : (L.getD k call0).cr with
     | true => rfl
     | false => exact absurd ⟨hu, hcr⟩ this
    ·rw [if_neg ho] at hm; simp at hm
  ·rintro ⟨o, ⟨g1, g2, g3, g4⟩, hrun⟩
   cases o with
   | nil =>
    refine .inr ?_
    have ho : overS L U := fun k hk ⟨hu, hcr⟩ => by
     have := g4 k hk hu (by simp)
     rw [hcr] at this; cases this
    rw [if_pos ho, List.mem_singleton]
    exact (Option.some.inj hrun).symm
   | cons x o =>
    obtain ⟨a1, a2, a3, a4⟩ := g2 x List.mem_cons_self
    have hxn : ((x.toNat : Nat) : Int) = x := by omega
    have hrun : (if (nxtT S (L.getD x.toNat call0)).2 = true then runN L (nxtT S (L.getD x.toNat call0)).1 o else none) = some T := hrun
    by_cases hn : (nxtT S (L.getD x.toNat call0)).2 = true
    ·rw [if_pos hn] at hrun
     rw [List.nodup_cons] at g1
     rw [List.pairwise_cons] at g3
     have hgo : goS L S U x.toNat := by
      refine ⟨⟨fun k hk ⟨hu, ha⟩ => ?_, a3⟩, hn, a4⟩
      by_cases hkx : (k : Int) = x
      ·have : k = x.toNat := by omega
       subst this
       exact self_ahead hr hk ha
      ·by_cases hko : (k : Int) ∈ o
       ·have := g3.1 _ hko
        rw [Int.toNat_natCast] at this; exact this ha
       ·exact cr_ahead hr hk (g4 k hk hu (by simp [hkx, hko])) _ ha
     have hcs := count_set (U := U) (i := x.toNat) (by omega) a3
     refine .inl ⟨x.toNat, List.mem_range.2 (by omega), ?_⟩
     rw [if_pos hgo]
     refine (ih _ _ (by rw [List.length_set, hU]) (by omega)).2 ⟨o, ⟨g1.2, fun y hy => ?_, g3.2, fun k hk hu hko => ?_⟩, hrun⟩
     ·obtain ⟨b1, b2, b3, b4⟩ := g2 y (List.mem_cons_of_mem _ hy)
      refine ⟨b1, b2, ?_, b4⟩
      rw [bset_getD (by omega), if_neg (fun e => g1.1 (by rw [show x = y by omega]; exact hy))]; exact b3
     ·rw [bset_getD (by omega)] at hu
      split at hu
      ·cases hu
      ·rename_i hne
       refine g4 k hk hu fun hm => ?_
       rcases List.mem_cons.1 hm with e | e
       ·exact hne (by omega)
       ·exact hko e
    ·rw [if_neg hn] at hrun; cases hrun
/-- none used -/
def noneU (L : List CallM) : List Bool := List.replicate L.length false
theorem mem_ends0 {L : List CallM} (hr : rightH L) {S T : StM} : T ∈ endsN L ((List.replicate L.length false).count false + 1) S (List.replicate L.length false) ↔ ∃ o, goodU L (noneU L) o ∧ runN L S o = some T :=
 mem_ends hr _ S _ List.length_replicate (by omega)
theorem rsp_pair {L : List CallM} {Q : List Int} (h : rspP L Q) : Q.Pairwise (fun x y => ¬ aheadH (L.getD y.toNat call0) (L.getD x.toNat call0)) := by
 rw [List.pairwise_iff_getElem]
 intro i j hi hj hij
 have := (h j hj).2 i hij
 rwa [getD_at hi, getD_at hj] at this
/-- the witness is an order that may be -/
theorem ord_good {L : List CallM} (hr : rightH L) {Q : List Int} (hQ : isOrd L Q) (hs : rspP L Q) : goodU L (noneU L) Q := by
 refine ⟨?_, fun x hx => ?_, rsp_pair hs, fun k hk _ hn => ?_⟩
 ·exact hQ.2.imp (fun h e => by subst e; exact h.irr)
 ·obtain ⟨h1, h2, h3⟩ := tookT_mem.1 ((hQ.1 x).1 hx)
  refine ⟨h1, h2, rep_getD, fun ⟨hc, hw⟩ => ?_⟩
  rcases (hr x.toNat (by omega)).1.2 with ⟨_, hb⟩ | ⟨h4, _⟩
  ·rcases hb.2 with ⟨_, hk⟩ | ⟨hw2, _⟩
   ·rcases h3 with h3 | h3
    ·rw [hc] at h3; cases h3
    ·rw [hk] at h3; cases h3
   ·exact hw2 hw
  ·rw [hc] at h4; cases h4
 ·cases hc : (L.getD k call0).cr with
  | true => rfl
  | false => exact absurd ((hQ.1 _).2 (tookT_mem.2 ⟨by omega, by omega, by rw [Int.toNat_natCast]; exact .inl hc⟩)) hn
/-- a right witness' state is one of those behind all orders -/
theorem wit_end {L : List CallM} (hr : rightH L) {Q : List Int} (hQ : isOrd L Q) (hs : rspP L Q) {S T : StM} (hT : runN L S Q = some T) : T ∈ endsN L ((List.replicate L.length false).count false + 1) S (List.replicate L.length false) :=
 (mem_ends0 hr).2 ⟨Q, ord_good hr hQ hs, hT⟩
end Go.Proofs.Ytnehocjmgnhhhaa
