/- The device: plain laws; put, take, Clone and Words by groups. -/
import Derived.Test.YtajkickofkeemaaFdv
import Derived.Test.YtajkickofkeemaaFsi
namespace Go.Proofs.Ytajkickofkeemaa
open Go.RowKit
set_option linter.unusedVariables false
attribute [local irreducible] K.KW K.RW K.DW K.OW K.QR K.KC
/-! ### what is done to a device -/
def DevM.store (D : DevM) (k : Nat) (x : Int) : DevM := { D with seen := D.seen.set k x }
def DevM.set (D : DevM) (t : Nat) (B : List Bool) : DevM := { D with flush := D.flush.set t B }
def DevM.clear (D : DevM) (t : Nat) : DevM := D.set t (List.replicate (D.flush.getD t []).length false)
def DevM.fresh (W : List Int) (n t : Nat) : DevM := ⟨W, W, List.replicate n 0, List.replicate t (List.replicate n false)⟩
theorem truesF_rep (n : Nat) : ∀ k, truesF k (List.replicate n false) = [] := by
 induction n with
 | zero => intro k; rfl
 | succ n ih => intro k; rw [List.replicate_succ, truesF, if_neg (by simp)]; exact ih (k + 1)
theorem trues_rep (n : Nat) : trues (List.replicate n false) = [] := truesF_rep n 0
/-! ### the sets of a device, one by one -/
theorem SetsAt.len : ∀ {gs vs Bs}, SetsAt gs vs Bs → vs.length = Bs.length
 | [], [], [], _ => rfl
 | _ :: _, _ :: _, _ :: _, h => by simp [SetsAt.len h.2]
 | [], _ :: _, _, h => h.elim
 | [], [], _ :: _, h => h.elim
 | _ :: _, [], _, h => h.elim
 | _ :: _, _ :: _, [], h => h.elim
theorem SetsAt.at : ∀ {gs : List K.Cs} {vs : List Value} {Bs : List (List Bool)} (k : Nat), SetsAt gs vs Bs → k < Bs.length → ∃ A g C v, gs = A ++ g :: C ∧ vs[k]? = some v ∧ SetG g v (Bs.getD k []) ∧
  ∀ g' v' B', SetG g' v' B' → SetsAt (A ++ g' :: C) (vs.set k v') (Bs.set k B')
 | g :: gs, v :: vs, B :: Bs, 0, h, _ => ⟨[], g, gs, v, rfl, rfl, h.1, fun g' v' B' hs => ⟨hs, h.2⟩⟩
 | g :: gs, v :: vs, B :: Bs, k + 1, h, hk => by
  obtain ⟨A, g1, C, v1, h1, h2, h3, h4⟩ := SetsAt.at k h.2 (by simpa using hk)
  exact ⟨g :: A, g1, C, v1, by rw [h1]; rfl, by simpa using h2, by simpa using h3, fun g' v' B' hs => ⟨h.1, h4 g' v' B' hs⟩⟩
 | [], [], [], k, _, hk => by simp at hk
 | [], _ :: _, _, _, h, _ => h.elim
 | [], [], _ :: _, _, h, _ => h.elim
 | _ :: _, [], _, _, h, _ => h.elim
 | _ :: _, _ :: _, [], _, h, _ => h.elim
theorem SetsG.at {z : K.Cs} {vs : List Value} {Bs : List (List Bool)} (h : SetsG z vs Bs) (k : Nat) (hk : k < Bs.length) : ∃ gA gi gC ia ic, z = [gA, gi, gC].flatten ∧ vs[k]? = some (.slice ia (trues (Bs.getD k [])).length ic) ∧
  K.OwnG gi 3 1 ia (trues (Bs.getD k [])).length ic ((trues (Bs.getD k [])).flatMap cI64) ∧ ∀ g' a' c' B', K.OwnG g' 3 1 a' (trues B').length c' ((trues B').flatMap cI64) → SetsG [gA, g', gC].flatten (vs.set k (.slice a' (trues B').length c')) (Bs.set k B') := by
 obtain ⟨gs, rfl, h⟩ := h
 obtain ⟨A, g, C, v, rfl, h2, ⟨a, c, rfl, h3⟩, h4⟩ := h.at k hk
 exact ⟨A.flatten, g, C.flatten, a, c, by simp, h2, h3, fun g' a' c' B' ho => ⟨_, by simp, h4 g' _ B' ⟨a', c', rfl, ho⟩⟩⟩
theorem setsNew (n t : Nat) : SetsG [] (List.replicate t (.slice none 0 0)) (List.replicate t (List.replicate n false)) := by
 refine ⟨List.replicate t [], by induction t with | zero => rfl | succ t ih => rw [List.replicate_succ, List.flatten_cons, ← ih]; rfl, ?_⟩
 induction t with
 | zero => exact trivial
 | succ t ih => exact ⟨⟨none, 0, by rw [trues_rep]; rfl, by rw [trues_rep]; exact K.OwnG.nil _ _⟩, ih⟩
/-! ### lines of words, and words -/
theorem ln8_cells (l : List Int) : cLine l = (ln8 l).flatMap cU64 := rfl
theorem lines_cells : ∀ ls : List (List Int), ls.flatMap cLine = (flatL ls).flatMap cU64
 | [] => rfl
 | l :: ls => by rw [List.flatMap_cons, lines_cells ls, ln8_cells]; unfold flatL; rw [List.flatMap_cons, List.flatMap_append]
theorem ln8_self {l : List Int} (h : l.length = 8) : ln8 l = l := by
 match l, h with
 | [a, b, c, d, e, f, g, i], _ => rfl
theorem lines_of : ∀ (n : Nat) (W : List Int), W.length = n * 8 → ∃ ls : List (List Int), ls.length = n ∧ flatL ls = W
 | 0, W, h => ⟨[], rfl, (List.eq_nil_of_length_eq_zero (by simpa using h)).symm⟩
 | n + 1, W, h => by
  obtain ⟨ls, h1, h2⟩ := lines_of n (W.drop 8) (by rw [List.length_drop]; omega)
  refine ⟨W.take 8 :: ls, by simp [h1], ?_⟩
  unfold flatL at h2 ⊢
  rw [List.flatMap_cons, h2, ln8_self (by rw [List.length_take]; omega), List.take_append_drop]
theorem DevM.ok.store {D : DevM} {n t k : Nat} {x : Int} (h : D.ok n t) : (D.store k x).ok n t := ⟨h.1, by unfold DevM.store; simpa using h.2.1, h.2.2⟩
theorem DevM.ok.set {D : DevM} {n t q : Nat} {B : List Bool} (h : D.ok n t) (hB : B.length = n) : (D.set q B).ok n t :=
 ⟨h.1, h.2.1, h.2.2.1, by unfold DevM.set; simpa using h.2.2.2.1, fun X hX => (List.mem_or_eq_of_mem_set hX).elim (fun h1 => h.2.2.2.2.1 X h1) (fun h1 => by rw [h1]; exact hB), h.2.2.2.2.2⟩
theorem DevM.ok.fresh {W : List Int} {n t : Nat} (h : W.length = n * 8) (h1 : 1 ≤ n) (h2 : n ≤ 262144) (h3 : 1 ≤ t) (h4 : t ≤ 64) : (DevM.fresh W n t).ok n t :=
 ⟨h, h, by simp [DevM.fresh], by simp [DevM.fresh], fun B hB => by rw [(List.mem_replicate.1 hB).2]; simp, h1, h2, h3, h4⟩
/-- slices.Insert over int, by groups -/
theorem cloneW_ok (a : Option Addr) (cap n base : Nat) (W : List Int) (w : World) (hm : n ≤ 1000000000) (hn : W.length = n * 8) (ho : K.Own w base 158 8 a n cap (W.flatMap cU64)) :
  K.KC Try.prog 97 #[.slice a n cap] w (fun v w' => ∃ r c, v = .slice r n c ∧ K.Chg K.No w w' ∧ K.Own w' w.heap.size 158 8 r n c (W.flatMap cU64)) := by
 obtain ⟨ls, rfl, rfl⟩ := lines_of n W hn
 rw [← lines_cells] at ho ⊢
 exact cloneL_ok a cap ls w hm (K.Own.rowE [] ho rfl (fun _ => rfl))
theorem wordsW_ok (a : Option Addr) (cap n base : Nat) (W : List Int) (w : World) (hm : n ≤ 262144) (hn : W.length = n * 8) (ho : K.Own w base 158 8 a n cap (W.flatMap cU64)) :
  K.KC Try.prog 82 #[.slice a n cap] w (fun v w' => ∃ r c, v = .slice r W.length c ∧ K.Chg K.No w w' ∧ K.Own w' w.heap.size 32 1 r W.length c (W.flatMap cU64)) := by
 obtain ⟨ls, rfl, rfl⟩ := lines_of n W hn
 rw [← lines_cells] at ho
 refine (words_ok a cap ls w (by omega) (K.Own.rowE [] ho rfl (fun _ => rfl))).mono fun v w' h => ?_
 obtain ⟨r, m, c, rfl, h1, h2, rfl⟩ := h
 exact ⟨r, c, rfl, h1, h2⟩
end Go.Proofs.Ytajkickofkeemaa
