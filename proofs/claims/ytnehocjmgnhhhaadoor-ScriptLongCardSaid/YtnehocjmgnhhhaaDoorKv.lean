import Derived.Test.YtnehocjmgnhhhaaDoorKw
import Derived.Lib.AppendZerosOnto
/- Rows of the call's own at the level of cells: more room, copy, append of noughts. -/
namespace Go.Proofs.YtnehocjmgnhhhaaDoor
open Go.RowKit
set_option linter.unusedVariables false
namespace K
variable {P : Program} {n : Nat} {F : Fr} {w : World}
section
variable {w' : World} {base : Nat} {e : TypeId} {size m cap : Nat} {a : Option Addr} {xs : List Value}
/-- a row of the call's own seen as longer, within its room -/
theorem Own.wide {g : Nat} (h : Own w base e size (some ⟨g, 0, none⟩) m cap xs) (m' : Nat) (h1 : m ≤ m') (h2 : m' ≤ cap) : ∃ us, us.length = (m' - m) * size ∧ Own w base e size (some ⟨g, 0, none⟩) m' cap (xs ++ us) := by
  obtain ⟨cur, h3, h4, h5, h6, h7, h8⟩ := h.cur
  have hle : m' * size ≤ cap * size := Nat.mul_le_mul_right _ h2
  have hle2 : m * size ≤ m' * size := Nat.mul_le_mul_right _ h1
  refine ⟨(cur.toList.drop (m * size)).take ((m' - m) * size), ?_, Own.of_cur h4 h3 h2 h6 h7 ?_⟩
  · rw [List.length_take, List.length_drop, Array.length_toList, h7, Nat.sub_mul]; omega
  · rw [← h8, ← List.take_add, Nat.sub_mul]
    congr 1
    omega
theorem Own.cells {g : Nat} (h : Own w base e size (some ⟨g, 0, none⟩) m cap xs) : ∀ j u, xs[j]? = some u → w.cell? ((⟨g, 0, none⟩ : Addr).add j) = some u := World.ownsRow.cells (g := g) h rfl
end
/-- two operations may come up: both orders are walked -/
theorem DW.l2 {Q : Exit → Fr → World → Prop} {ops : Array Oper} {S : World → Prop} {fuel : Nat} {listed : Array Bool} (i j : Nat) {oi oj : Oper} (hi : ops[i]? = some oi) (hj : ops[j]? = some oj) (hr : Region.ready .any ops listed = [i, j]) (hgi : gd ops n F oi = true) (hgj : gd ops n F oj = true)
    (h1 : OW P n F oi w (fun G w' => (S w' ∨ lastOp ops i = true) ∧ DW P n ops S fuel (listed.setIfInBounds i true) Q G w')) (h2 : OW P n F oj w (fun G w' => (S w' ∨ lastOp ops j = true) ∧ DW P n ops S fuel (listed.setIfInBounds j true) Q G w')) : DW P n ops S (fuel + 1) listed Q F w := by
  obtain ⟨hgi, hoki⟩ := gd_spec hgi
  obtain ⟨hgj, hokj⟩ := gd_spec hgj
  refine wpAnyG_all hr (by simp) ?_
  intro k hk
  simp only [List.mem_cons, List.not_mem_nil, or_false] at hk
  rcases hk with rfl | rfl
  · unfold wpOp
    rw [hi]
    simp only []
    rw [wanted_fr, if_pos hgi]
    refine .inl (Oper.wp_mono ?_ (h1 hoki _))
    rintro a w' ⟨G, rfl, h⟩
    exact h
  · unfold wpOp
    rw [hj]
    simp only []
    rw [wanted_fr, if_pos hgj]
    refine .inl (Oper.wp_mono ?_ (h2 hokj _))
    rintro a w' ⟨G, rfl, h⟩
    exact h
end K
end Go.Proofs.YtnehocjmgnhhhaaDoor
