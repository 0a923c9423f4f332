import Derived.Test.YtbfafebfkdbglaaGreatFdv
import Derived.Test.YtbfafebfkdbglaaGreatFsi
/- The device: plain laws; put, take, Clone and Words by groups. -/
namespace Go.Proofs.YtbfafebfkdbglaaGreat
open Go.RowKit
set_option linter.unusedVariables false
attribute [local irreducible] K.KW K.RW K.DW K.OW K.QR K.KC
/-! ### what is done to a device -/
def DevM.store (D : DevM) (k : Nat) (x : Int) : DevM := { D with seen := D.seen.set k x }
def DevM.set (D : DevM) (t : Nat) (B : List Bool) : DevM := { D with flush := D.flush.set t B }
def DevM.mark (D : DevM) (t k : Nat) : DevM := D.set t ((D.flush.getD t []).set k true)
def DevM.clear (D : DevM) (t : Nat) : DevM := D.set t (List.replicate (D.flush.getD t []).length false)
def copyL (K S : List Int) (k : Nat) : List Int := K.take (k * 8) ++ (S.drop (k * 8)).take 8 ++ K.drop (k * 8 + 8)
def DevM.back (D : DevM) (k : Nat) : DevM := { D with kept := copyL D.kept D.seen k, writes := D.writes.set k (IntKind.i64.wrap (D.writes.getD k 0 + 1)) }
def DevM.fenceTo (D : DevM) (t j : Nat) : DevM := ((trues (D.flush.getD t [])).take j).foldl (fun D x => D.back x.toNat) (D.clear t)
def DevM.fence (D : DevM) (t : Nat) : DevM := (trues (D.flush.getD t [])).foldl (fun D x => D.back x.toNat) (D.clear t)
def clr (B : List Bool) : List Bool := List.replicate B.length false
def DevM.crashTo (D : DevM) (j : Nat) : DevM := { D with seen := D.kept, flush := (D.flush.take j).map clr ++ D.flush.drop j }
def DevM.crash (D : DevM) : DevM := { D with seen := D.kept, flush := D.flush.map clr }
def DevM.fresh (W : List Int) (n t : Nat) : DevM := ⟨W, W, List.replicate n 0, List.replicate t (List.replicate n false)⟩
theorem truesF_len : ∀ (B : List Bool) (k : Nat), (truesF k B).length ≤ B.length
 | [], _ => Nat.le_refl _
 | b :: B, k => by have := truesF_len B (k + 1); unfold truesF; split <;> simp <;> omega
theorem trues_len (B : List Bool) : (trues B).length ≤ B.length := truesF_len B 0
theorem truesF_mem : ∀ (B : List Bool) (k : Nat) (x : Int), x ∈ truesF k B → ∃ i, i < B.length ∧ x = ((k + i : Nat) : Int) ∧ B.getD i false = true
 | [], _, _, h => by cases h
 | b :: B, k, x, h => by
  unfold truesF at h
  split at h
  ·rename_i hb
   rcases List.mem_cons.1 h with h | h
   ·exact ⟨0, by simp, by simpa using h, by simpa using hb⟩
   ·obtain ⟨i, h1, h2, h3⟩ := truesF_mem B (k + 1) x h; exact ⟨i + 1, by simpa using h1, by rw [h2]; congr 1; omega, by simpa using h3⟩
  ·obtain ⟨i, h1, h2, h3⟩ := truesF_mem B (k + 1) x h; exact ⟨i + 1, by simpa using h1, by rw [h2]; congr 1; omega, by simpa using h3⟩
theorem trues_mem {B : List Bool} {x : Int} (h : x ∈ trues B) : 0 ≤ x ∧ x < B.length ∧ B.getD x.toNat false = true := by
 obtain ⟨i, h1, rfl, h3⟩ := truesF_mem B 0 x h
 exact ⟨by omega, by omega, by simpa using h3⟩
theorem trues_get {B : List Bool} {j : Nat} (h : j < (trues B).length) : 0 ≤ (trues B).getD j 0 ∧ (trues B).getD j 0 < B.length := by
 have h1 : (trues B).getD j 0 ∈ trues B := by simp [h]
 exact ⟨(trues_mem h1).1, (trues_mem h1).2.1⟩
theorem truesF_rep (n : Nat) : ∀ k, truesF k (List.replicate n false) = [] := by
 induction n with
 | zero => intro k; rfl
 | succ n ih => intro k; rw [List.replicate_succ, truesF, if_neg (by simp)]; exact ih (k + 1)
theorem trues_rep (n : Nat) : trues (List.replicate n false) = [] := truesF_rep n 0
theorem truesF_sorted : ∀ (B : List Bool) (k : Nat), (truesF k B).Pairwise (· < ·) ∧ ∀ x ∈ truesF k B, (k : Int) ≤ x
 | [], _ => ⟨List.Pairwise.nil, fun x h => by cases h⟩
 | b :: B, k => by
  have ih := truesF_sorted B (k + 1)
  unfold truesF
  split
  ·refine ⟨List.Pairwise.cons (fun x hx => by have := ih.2 x hx; omega) ih.1, fun x hx => ?_⟩
   rcases List.mem_cons.1 hx with h | h
   ·omega
   ·have := ih.2 x h; omega
  ·exact ⟨ih.1, fun x hx => by have := ih.2 x hx; omega⟩
theorem rising_of_pw {l : List Int} (h : l.Pairwise (· < ·)) : rising l := by
 intro i hi
 have := List.pairwise_iff_getElem.1 h i (i + 1) (by omega) hi (by omega)
 simpa [show i < l.length by omega, hi] using this
theorem trues_rising (B : List Bool) : rising (trues B) := rising_of_pw (truesF_sorted B 0).1
/-- what put puts -/
theorem truesF_set : ∀ (B : List Bool) (k i : Nat), i < B.length →
  truesF k (B.set i true) = if hasT (truesF k B) ((k + i : Nat) : Int) then truesF k B else (truesF k B).take (posT (truesF k B) ((k + i : Nat) : Int)) ++ ((k + i : Nat) : Int) :: (truesF k B).drop (posT (truesF k B) ((k + i : Nat) : Int))
 | [], _, _, h => by simp at h
 | b :: B, k, 0, _ => by
  have hge := (truesF_sorted B (k + 1)).2
  have hp : ∀ l : List Int, (∀ x ∈ l, (k : Int) ≤ x) → posT l k = 0 := fun l hl => by
   unfold posT
   cases l with
   | nil => rfl
   | cons x l => rw [List.takeWhile_cons_of_neg (by have := hl x (by simp); simp; omega)]; rfl
  simp only [List.set_cons_zero, Nat.add_zero]
  cases b with
  | true =>
   have h1 : truesF k (true :: B) = (k : Int) :: truesF (k + 1) B := rfl
   rw [h1]
   have h2 : posT ((k : Int) :: truesF (k + 1) B) k = 0 := hp _ (fun x hx => (List.mem_cons.1 hx).elim (fun h => by omega) (fun h => by have := hge x h; omega))
   rw [if_pos (by unfold hasT; rw [h2]; simp)]
  | false =>
   have h1 : truesF k (false :: B) = truesF (k + 1) B := rfl
   have h0 : truesF k (true :: B) = (k : Int) :: truesF (k + 1) B := rfl
   rw [h1, h0]
   have h2 : posT (truesF (k + 1) B) k = 0 := hp _ (fun x hx => by have := hge x hx; omega)
   rw [if_neg, h2]
   ·simp
   ·unfold hasT; rw [h2]
    intro h
    have h := of_decide_eq_true h
    have hm : (truesF (k + 1) B).getD 0 0 ∈ truesF (k + 1) B := by simp [h.1]
    have := hge _ hm; omega
 | b :: B, k, i + 1, h => by
  have ih := truesF_set B (k + 1) i (by simpa using h)
  rw [show k + 1 + i = k + (i + 1) by omega] at ih
  simp only [List.set_cons_succ]
  cases b with
  | false => exact ih
  | true =>
   have h1 : ∀ B, truesF k (true :: B) = (k : Int) :: truesF (k + 1) B := fun _ => rfl
   rw [h1, h1, ih]
   have hp : posT ((k : Int) :: truesF (k + 1) B) ((k + (i + 1) : Nat) : Int) = posT (truesF (k + 1) B) ((k + (i + 1) : Nat) : Int) + 1 := by
    unfold posT
    rw [List.takeWhile_cons_of_pos (by simp; omega)]; rfl
   have hh : hasT ((k : Int) :: truesF (k + 1) B) ((k + (i + 1) : Nat) : Int) = hasT (truesF (k + 1) B) ((k + (i + 1) : Nat) : Int) := by
    unfold hasT; rw [hp]; simp
   rw [hh, hp]
   split <;> simp
theorem trues_set {B : List Bool} {i : Nat} (h : i < B.length) : trues (B.set i true) = if hasT (trues B) i then trues B else insT (trues B) (posT (trues B) i) i := by
 have := truesF_set B 0 i h
 rw [Nat.zero_add] at this
 exact this
theorem posT_le (l : List Int) (k : Int) : posT l k ≤ l.length := by unfold posT; exact List.takeWhile_prefix _ |>.length_le
theorem set_true {B : List Bool} {i : Nat} (h : i < B.length) (hh : hasT (trues B) i = true) : B.set i true = B := by
 have h1 := of_decide_eq_true hh
 have hm : (i : Int) ∈ trues B := by rw [← h1.2]; simp [h1.1]
 have h2 := (trues_mem hm).2.2
 apply List.ext_getElem (by simp)
 intro j h3 h4
 rw [List.getElem_set]
 split
 ·rename_i e; subst e; simpa [h] using h2.symm
 ·rfl
/-! ### the sets of a device, one by one -/
theorem SetsAt.len : ∀ {gs vs Bs}, SetsAt gs vs Bs → vs.length = Bs.length
 | [], [], [], _ => rfl
 | _ :: _, _ :: _, _ :: _, h => by simp [SetsAt.len h.2]
 | [], _ :: _, _, h => h.elim
 | [], [], _ :: _, h => h.elim
 | _ :: _, [], _, h => h.elim
 | _ :: _, _ :: _, [], h => h.elim
theorem SetsAt.at : ∀ {gs : List K.Cs} {vs : List Value} {Bs : List (List Bool)} (k : Nat), SetsAt gs vs Bs → k < Bs.length → ∃ A g C v, gs = A ++ g :: C ∧ vs[k]? = some v ∧ SetG g v (Bs.getD k []) ∧
  ∀ g' v' B', SetG g' v' B' → SetsAt (A ++ g' :: C) (vs.set k v') (Bs.set k B')
 | g :: gs, v :: vs, B :: Bs, 0, h, _ => ⟨[], g, gs, v, rfl, rfl, h.1, fun g' v' B' hs => ⟨hs, h.2⟩⟩
 | g :: gs, v :: vs, B :: Bs, k + 1, h, hk => by
  obtain ⟨A, g1, C, v1, h1, h2, h3, h4⟩ := SetsAt.at k h.2 (by simpa using hk)
  exact ⟨g :: A, g1, C, v1, by rw [h1]; rfl, by simpa using h2, by simpa using h3, fun g' v' B' hs => ⟨h.1, h4 g' v' B' hs⟩⟩
 | [], [], [], k, _, hk => by simp at hk
 | [], _ :: _, _, _, h, _ => h.elim
 | [], [], _ :: _, _, h, _ => h.elim
 | _ :: _, [], _, _, h, _ => h.elim
 | _ :: _, _ :: _, [], _, h, _ => h.elim
theorem SetsG.at {z : K.Cs} {vs : List Value} {Bs : List (List Bool)} (h : SetsG z vs Bs) (k : Nat) (hk : k < Bs.length) : ∃ gA gi gC ia ic, z = [gA, gi, gC].flatten ∧ vs[k]? = some (.slice ia (trues (Bs.getD k [])).length ic) ∧
  K.OwnG gi 3 1 ia (trues (Bs.getD k [])).length ic ((trues (Bs.getD k [])).flatMap cI64) ∧ ∀ g' a' c' B', K.OwnG g' 3 1 a' (trues B').length c' ((trues B').flatMap cI64) → SetsG [gA, g', gC].flatten (vs.set k (.slice a' (trues B').length c')) (Bs.set k B') := by
 obtain ⟨gs, rfl, h⟩ := h
 obtain ⟨A, g, C, v, rfl, h2, ⟨a, c, rfl, h3⟩, h4⟩ := h.at k hk
 exact ⟨A.flatten, g, C.flatten, a, c, by simp, h2, h3, fun g' a' c' B' ho => ⟨_, by simp, h4 g' _ B' ⟨a', c', rfl, ho⟩⟩⟩
theorem setsNew (n t : Nat) : SetsG [] (List.replicate t (.slice none 0 0)) (List.replicate t (List.replicate n false)) := by
 refine ⟨List.replicate t [], by induction t with | zero => rfl | succ t ih => rw [List.replicate_succ, List.flatten_cons, ← ih]; rfl, ?_⟩
 induction t with
 | zero => exact trivial
 | succ t ih => exact ⟨⟨none, 0, by rw [trues_rep]; rfl, by rw [trues_rep]; exact K.OwnG.nil _ _⟩, ih⟩
/-! ### lines of words, and words -/
theorem ln8_cells (l : List Int) : cLine l = (ln8 l).flatMap cU64 := rfl
theorem lines_cells : ∀ ls : List (List Int), ls.flatMap cLine = (flatL ls).flatMap cU64
 | [] => rfl
 | l :: ls => by rw [List.flatMap_cons, lines_cells ls, ln8_cells]; unfold flatL; rw [List.flatMap_cons, List.flatMap_append]
theorem ln8_self {l : List Int} (h : l.length = 8) : ln8 l = l := by
 match l, h with
 | [a, b, c, d, e, f, g, i], _ => rfl
theorem lines_of : ∀ (n : Nat) (W : List Int), W.length = n * 8 → ∃ ls : List (List Int), ls.length = n ∧ flatL ls = W
 | 0, W, h => ⟨[], rfl, (List.eq_nil_of_length_eq_zero (by simpa using h)).symm⟩
 | n + 1, W, h => by
  obtain ⟨ls, h1, h2⟩ := lines_of n (W.drop 8) (by rw [List.length_drop]; omega)
  refine ⟨W.take 8 :: ls, by simp [h1], ?_⟩
  unfold flatL at h2 ⊢
  rw [List.flatMap_cons, h2, ln8_self (by rw [List.length_take]; omega), List.take_append_drop]
theorem copyL_len {Kp S : List Int} {k n : Nat} (hK : Kp.length = n * 8) (hS : S.length = n * 8) (hk : k < n) : (copyL Kp S k).length = n * 8 := by
 unfold copyL
 simp only [List.length_append, List.length_take, List.length_drop]; omega
theorem take8 {S : List Int} {k : Nat} (h : k + 8 ≤ S.length) : (S.drop k).take 8 = [S.getD (k + 0) 0, S.getD (k + 1) 0, S.getD (k + 2) 0, S.getD (k + 3) 0, S.getD (k + 4) 0, S.getD (k + 5) 0, S.getD (k + 6) 0, S.getD (k + 7) 0] := by
 apply List.ext_getElem (by simp; omega)
 intro i h1 h2
 simp only [List.getElem_take, List.getElem_drop]
 have hi : i < 8 := by simpa using h2
 have e : ∀ j, j < 8 → S.getD (k + j) 0 = S[k + j]! := fun j hj => by simp [show k + j < S.length by omega]
 match i, hi with
 | 0, _ | 1, _ | 2, _ | 3, _ | 4, _ | 5, _ | 6, _ | 7, _ => simp [show k + 0 < S.length by omega, show k < S.length by omega, show k + 1 < S.length by omega, show k + 2 < S.length by omega, show k + 3 < S.length by omega, show k + 4 < S.length by omega, show k + 5 < S.length by omega, show k + 6 < S.length by omega, show k + 7 < S.length by omega]
theorem copyL_cells {Kp S : List Int} {k n : Nat} (hK : Kp.length = n * 8) (hS : S.length = n * 8) (hk : k < n) :
  (Kp.flatMap cU64).take (0 + k * 8) ++ [.int .u64 (S.getD (0 + k * 8 + 0) 0), .int .u64 (S.getD (0 + k * 8 + 1) 0), .int .u64 (S.getD (0 + k * 8 + 2) 0), .int .u64 (S.getD (0 + k * 8 + 3) 0), .int .u64 (S.getD (0 + k * 8 + 4) 0), .int .u64 (S.getD (0 + k * 8 + 5) 0), .int .u64 (S.getD (0 + k * 8 + 6) 0), .int .u64 (S.getD (0 + k * 8 + 7) 0)] ++ (Kp.flatMap cU64).drop (0 + k * 8 + 8) = (copyL Kp S k).flatMap cU64 := by
 have h1 := K.fl_take (c := cU64) (size := 1) (fun _ => rfl) Kp (0 + k * 8)
 have h2 := K.fl_drop (c := cU64) (size := 1) (fun _ => rfl) Kp (0 + k * 8 + 8)
 rw [Nat.mul_one] at h1 h2
 rw [h1, h2]
 unfold copyL
 rw [List.flatMap_append, List.flatMap_append, take8 (by omega), Nat.zero_add]
 rfl
theorem mem_getD {α : Type} {l : List α} {k : Nat} (d : α) (h : k < l.length) : l.getD k d ∈ l := by simp [h]
theorem DevM.ok.store {D : DevM} {n t k : Nat} {x : Int} (h : D.ok n t) : (D.store k x).ok n t := ⟨h.1, by unfold DevM.store; simpa using h.2.1, h.2.2⟩
theorem DevM.ok.set {D : DevM} {n t q : Nat} {B : List Bool} (h : D.ok n t) (hB : B.length = n) : (D.set q B).ok n t :=
 ⟨h.1, h.2.1, h.2.2.1, by unfold DevM.set; simpa using h.2.2.2.1, fun X hX => (List.mem_or_eq_of_mem_set hX).elim (fun h1 => h.2.2.2.2.1 X h1) (fun h1 => by rw [h1]; exact hB), h.2.2.2.2.2⟩
theorem DevM.ok.back {D : DevM} {n t k : Nat} (h : D.ok n t) (hk : k < n) : (D.back k).ok n t := ⟨copyL_len h.1 h.2.1 hk, h.2.1, by unfold DevM.back; simpa using h.2.2.1, h.2.2.2⟩
theorem DevM.ok.getB {D : DevM} {n t q : Nat} (h : D.ok n t) (hq : q < t) : (D.flush.getD q []).length = n := h.2.2.2.2.1 _ (mem_getD _ (by rw [h.2.2.2.1]; exact hq))
theorem DevM.ok.fresh {W : List Int} {n t : Nat} (h : W.length = n * 8) (h1 : 1 ≤ n) (h2 : n ≤ 262144) (h3 : 1 ≤ t) (h4 : t ≤ 64) : (DevM.fresh W n t).ok n t :=
 ⟨h, h, by simp [DevM.fresh], by simp [DevM.fresh], fun B hB => by rw [(List.mem_replicate.1 hB).2]; simp, h1, h2, h3, h4⟩
/-- slices.Insert over int, by groups -/
theorem insI_gc (w0 : World) (gl gx : K.Cs) (a : Option Addr) (i cap vb : Nat) (xs : List Int) (x : Int) (hm : xs.length ≤ 1000000000) (hi : i ≤ xs.length) (ho : K.OwnG gl 3 1 a xs.length cap (xs.flatMap cI64)) (hx : gx = [K.pt vb 3 [K.iv x]]) :
  K.GC Tryz.prog w0 190 #[.slice a xs.length cap, K.iv ((i : Nat) : Int), .slice (some ⟨vb, 0, none⟩) 1 1] [gl, gx] (fun v post => ∃ a' cap' l', v = .slice a' (xs.length + 1) cap' ∧ post = [l'] ∧ K.OwnG l' 3 1 a' (xs.length + 1) cap' ((insT xs i x).flatMap cI64)) := by
 intro fr w hS
 have hv : K.Own w w0.heap.size 3 1 (some ⟨vb, 0, none⟩) 1 1 ([x].flatMap cI64) := hS.ownr 1 rfl (K.OwnG.ofPt hx 1 (by unfold maxLen; omega) rfl)
 have how := hS.ownr 0 rfl ho
 rcases ho.form with ⟨rfl, h0, h1⟩ | ⟨g, rfl⟩
 ·obtain rfl : xs = [] := List.eq_nil_of_length_eq_zero h0
  obtain rfl : i = 0 := by simpa using hi
  obtain rfl := h1
  refine (insNI_ok vb 1 w0.heap.size w0.heap.size x w hS.chg.size hv).mono fun v w' h => ?_
  obtain ⟨a', cap', rfl, h2, h3, h4⟩ := h
  obtain ⟨l', h5, h6⟩ := hS.rput 0 rfl ho (h2.mono fun _ _ h => h.elim) h3 (fun j hj => .inr (h4 j hj))
  exact ⟨[l'], ⟨a', cap', l', rfl, rfl, h5⟩, h6.pick [0, 2]⟩
 ·refine (insSI_ok g i cap vb 1 w0.heap.size w0.heap.size xs x w hm hi (hS.ne 1 0 (by decide) rfl rfl hx ho) hS.chg.size how hv).mono fun v w' h => ?_
  obtain ⟨a', cap', rfl, h2, h3, h4⟩ := h
  obtain ⟨l', h5, h6⟩ := hS.rput 0 rfl ho h2 h3 (fun j hj => (h4 j hj).imp (fun h => ⟨_, rfl, h⟩) id)
  exact ⟨[l'], ⟨a', cap', l', rfl, rfl, h5⟩, h6.pick [0, 2]⟩
/-- slices.Clone of lines, and their words, said by words -/
theorem cloneW_ok (a : Option Addr) (cap n base : Nat) (W : List Int) (w : World) (hm : n ≤ 1000000000) (hn : W.length = n * 8) (ho : K.Own w base 206 8 a n cap (W.flatMap cU64)) :
  K.KC Tryz.prog 163 #[.slice a n cap] w (fun v w' => ∃ r c, v = .slice r n c ∧ K.Chg K.No w w' ∧ K.Own w' w.heap.size 206 8 r n c (W.flatMap cU64)) := by
 obtain ⟨ls, rfl, rfl⟩ := lines_of n W hn
 rw [← lines_cells] at ho ⊢
 exact cloneL_ok a cap ls w hm (K.Own.rowE [] ho rfl (fun _ => rfl))
theorem wordsW_ok (a : Option Addr) (cap n base : Nat) (W : List Int) (w : World) (hm : n ≤ 262144) (hn : W.length = n * 8) (ho : K.Own w base 206 8 a n cap (W.flatMap cU64)) :
  K.KC Tryz.prog 95 #[.slice a n cap] w (fun v w' => ∃ r c, v = .slice r W.length c ∧ K.Chg K.No w w' ∧ K.Own w' w.heap.size 57 1 r W.length c (W.flatMap cU64)) := by
 obtain ⟨ls, rfl, rfl⟩ := lines_of n W hn
 rw [← lines_cells] at ho
 refine (words_ok a cap ls w (by omega) (K.Own.rowE [] ho rfl (fun _ => rfl))).mono fun v w' h => ?_
 obtain ⟨r, m, c, rfl, h1, h2, rfl⟩ := h
 exact ⟨r, c, rfl, h1, h2⟩
end Go.Proofs.YtbfafebfkdbglaaGreat
