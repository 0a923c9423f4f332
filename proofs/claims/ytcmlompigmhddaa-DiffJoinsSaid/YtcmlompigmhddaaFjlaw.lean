/- Joining two patches: plain laws. -/
import Derived.Test.YtcmlompigmhddaaFdref
namespace Go.Proofs.Ytcmlompigmhddaa
open Go.RowKit
set_option linter.unusedVariables false
attribute [local irreducible] K.KW K.RW K.DW K.OW K.QR K.KC

/-- the merge of two patches; none: they do not fit -/
def mergeJ : List Chg3 → List Chg3 → Option (List Chg3)
  | [], m => some m
  | a :: l, [] => some (a :: l)
  | a :: l, b :: m =>
    if a.at_ < b.at_ then (mergeJ l (b :: m)).map (a :: ·)
    else if a.at_ > b.at_ then (mergeJ (a :: l) m).map (b :: ·)
    else if ¬ a.new = b.old then none
    else if ¬ a.old = b.new then (mergeJ l m).map (⟨a.at_, a.old, b.new⟩ :: ·)
    else mergeJ l m
termination_by l m => l.length + m.length
theorem mergeJ_nil (m : List Chg3) : mergeJ [] m = some m := by unfold mergeJ; rfl
theorem mergeJ_nil2 (l : List Chg3) : mergeJ l [] = some l := by
  cases l with
  | nil => exact mergeJ_nil []
  | cons a l => unfold mergeJ; rfl
theorem mergeJ_lt {a b : Chg3} {l m : List Chg3} (h : a.at_ < b.at_) : mergeJ (a :: l) (b :: m) = (mergeJ l (b :: m)).map (a :: ·) := by
  rw [mergeJ, if_pos h]
theorem mergeJ_gt {a b : Chg3} {l m : List Chg3} (h : ¬ a.at_ < b.at_) (h2 : a.at_ > b.at_) : mergeJ (a :: l) (b :: m) = (mergeJ (a :: l) m).map (b :: ·) := by
  rw [mergeJ, if_neg h, if_pos h2]
theorem mergeJ_no {a b : Chg3} {l m : List Chg3} (h : ¬ a.at_ < b.at_) (h2 : ¬ a.at_ > b.at_) (h3 : ¬ a.new = b.old) : mergeJ (a :: l) (b :: m) = none := by
  rw [mergeJ, if_neg h, if_neg h2, if_pos h3]
theorem mergeJ_eq {a b : Chg3} {l m : List Chg3} (h : ¬ a.at_ < b.at_) (h2 : ¬ a.at_ > b.at_) (h3 : a.new = b.old) (h4 : ¬ a.old = b.new) : mergeJ (a :: l) (b :: m) = (mergeJ l m).map (⟨a.at_, a.old, b.new⟩ :: ·) := by
  rw [mergeJ, if_neg h, if_neg h2, if_neg (fun g => g h3), if_pos h4]
theorem mergeJ_away {a b : Chg3} {l m : List Chg3} (h : ¬ a.at_ < b.at_) (h2 : ¬ a.at_ > b.at_) (h3 : a.new = b.old) (h4 : a.old = b.new) : mergeJ (a :: l) (b :: m) = mergeJ l m := by
  rw [mergeJ, if_neg h, if_neg h2, if_neg (fun g => g h3), if_neg (fun g => g h4)]
/-- what Join answers -/
def joinR (l m : List Chg3) : Int × List Chg3 :=
  if right l = true ∧ right m = true then match mergeJ l m with
    | none => (9, [])
    | some j => (0, j)
  else (3, [])
theorem joinR_3 {l m : List Chg3} (h : ¬ (right l = true ∧ right m = true)) : joinR l m = (3, []) := if_neg h
theorem joinR_9 {l m : List Chg3} (h1 : right l = true) (h2 : right m = true) (h : mergeJ l m = none) : joinR l m = (9, []) := by unfold joinR; rw [if_pos ⟨h1, h2⟩, h]
theorem joinR_0 {l m j : List Chg3} (h1 : right l = true) (h2 : right m = true) (h : mergeJ l m = some j) : joinR l m = (0, j) := by unfold joinR; rw [if_pos ⟨h1, h2⟩, h]
/-- how far the merge has come: these are left, that is made -/
def mK (l m x y out : List Chg3) : Prop := mergeJ l m = (mergeJ x y).map (out ++ ·)
theorem mK_zero (l m : List Chg3) : mK l m l m [] := by
  unfold mK
  cases mergeJ l m <;> rfl
theorem cons_of {x : List Chg3} (h : 0 < x.length) : x = x.getD 0 d3 :: x.drop 1 := by
  cases x with
  | nil => simp at h
  | cons a x => rfl
theorem map_snoc (o : Option (List Chg3)) (out : List Chg3) (c : Chg3) : (o.map (c :: ·)).map (out ++ ·) = o.map ((out ++ [c]) ++ ·) := by
  cases o with
  | none => rfl
  | some x => simp
section
variable {l m x y out : List Chg3}
theorem mK_lt (h : mK l m x y out) (hi : 0 < x.length) (hj : 0 < y.length) (hlt : (x.getD 0 d3).at_ < (y.getD 0 d3).at_) : mK l m (x.drop 1) y (out ++ [x.getD 0 d3]) := by
  unfold mK at h ⊢
  rw [h]
  conv => lhs; rw [cons_of hi, cons_of hj, mergeJ_lt hlt, map_snoc, ← cons_of hj]
theorem mK_gt (h : mK l m x y out) (hi : 0 < x.length) (hj : 0 < y.length) (hlt : (x.getD 0 d3).at_ > (y.getD 0 d3).at_) : mK l m x (y.drop 1) (out ++ [y.getD 0 d3]) := by
  unfold mK at h ⊢
  rw [h]
  conv => lhs; rw [cons_of hi, cons_of hj, mergeJ_gt (by omega) hlt, map_snoc, ← cons_of hi]
theorem mK_no (h : mK l m x y out) (hi : 0 < x.length) (hj : 0 < y.length) (he : (x.getD 0 d3).at_ = (y.getD 0 d3).at_) (hn : ¬ (x.getD 0 d3).new = (y.getD 0 d3).old) : mergeJ l m = none := by
  unfold mK at h
  rw [h, cons_of hi, cons_of hj, mergeJ_no (by omega) (by omega) hn]; rfl
theorem mK_eq (h : mK l m x y out) (hi : 0 < x.length) (hj : 0 < y.length) (he : (x.getD 0 d3).at_ = (y.getD 0 d3).at_) (hn : (x.getD 0 d3).new = (y.getD 0 d3).old) (ho : ¬ (x.getD 0 d3).old = (y.getD 0 d3).new) :
    mK l m (x.drop 1) (y.drop 1) (out ++ [⟨(x.getD 0 d3).at_, (x.getD 0 d3).old, (y.getD 0 d3).new⟩]) := by
  unfold mK at h ⊢
  rw [h]
  conv => lhs; rw [cons_of hi, cons_of hj, mergeJ_eq (by omega) (by omega) hn ho, map_snoc]
theorem mK_away (h : mK l m x y out) (hi : 0 < x.length) (hj : 0 < y.length) (he : (x.getD 0 d3).at_ = (y.getD 0 d3).at_) (hn : (x.getD 0 d3).new = (y.getD 0 d3).old) (ho : (x.getD 0 d3).old = (y.getD 0 d3).new) :
    mK l m (x.drop 1) (y.drop 1) out := by
  unfold mK at h ⊢
  rw [h]
  conv => lhs; rw [cons_of hi, cons_of hj, mergeJ_away (by omega) (by omega) hn ho]
theorem mK_l (h : mK l m x y out) (hi : 0 < x.length) (hj : y.length = 0) : mK l m (x.drop 1) y (out ++ [x.getD 0 d3]) := by
  unfold mK at h ⊢
  obtain rfl := List.eq_nil_of_length_eq_zero hj
  rw [h, mergeJ_nil2, mergeJ_nil2]
  conv => lhs; rw [cons_of hi]
  simp
theorem mK_m (h : mK l m x y out) (hi : x.length = 0) (hj : 0 < y.length) : mK l m x (y.drop 1) (out ++ [y.getD 0 d3]) := by
  unfold mK at h ⊢
  obtain rfl := List.eq_nil_of_length_eq_zero hi
  rw [h, mergeJ_nil, mergeJ_nil]
  conv => lhs; rw [cons_of hj]
  simp
theorem mK_end (h : mK l m x y out) (he : x.length = 0 ∨ y.length = 0) : mergeJ l m = some (out ++ x ++ y) := by
  unfold mK at h
  rw [h]
  rcases he with he | he
  · rw [List.eq_nil_of_length_eq_zero he, mergeJ_nil]; simp
  · rw [List.eq_nil_of_length_eq_zero he, mergeJ_nil2]; simp
theorem mK_done (h : mK l m x y out) (hi : x.length = 0) (hj : y.length = 0) : mergeJ l m = some out := by
  rw [mK_end h (.inl hi), List.eq_nil_of_length_eq_zero hi, List.eq_nil_of_length_eq_zero hj]; simp
end

/-! what a joined patch does -/
def sortedC (l : List Chg3) : Prop := l.Pairwise (fun a b => a.at_ < b.at_)
def okC (n : Nat) (l : List Chg3) : Prop := ∀ c ∈ l, 0 ≤ c.at_ ∧ ¬ c.old = c.new ∧ c.at_ < n
theorem sorted_of_right {l : List Chg3} (h : right l = true) : sortedC l := by
  unfold sortedC
  rw [List.pairwise_iff_getElem]
  intro i j hi hj hij
  have := right_lt h hj hij
  simpa [List.getD_eq_getElem?_getD, List.getElem?_eq_getElem hi, List.getElem?_eq_getElem hj] using this
theorem right_of_sorted {l : List Chg3} {n : Nat} (h : sortedC l) (ho : okC n l) : right l = true := by
  refine right_of fun i hi => ?_
  have e : ∀ k, (hk : k < l.length) → l.getD k d3 = l[k] := fun k hk => by simp [List.getD_eq_getElem?_getD, List.getElem?_eq_getElem hk]
  have h1 := ho _ (List.getElem_mem hi)
  unfold rightAt
  rw [e i hi]
  refine ⟨by omega, h1.2.1, fun ⟨h0, h2⟩ => ?_⟩
  rw [e (i - 1) (by omega)] at h2
  have := (List.pairwise_iff_getElem.1 h) (i - 1) i (by omega) hi (by omega)
  omega
theorem okC_of {xs ys : List Int} {l : List Chg3} (h : apply xs l = (0, ys)) : right l = true ∧ okC xs.length l ∧ foldC xs l = some ys := by
  unfold apply at h
  split at h
  · cases h
  · rename_i hr
    have hr : right l = true := by cases hq : right l <;> simp_all
    split at h
    · cases h
    · rename_i hn
      split at h
      · cases h
      · rename_i zs hz
        simp only [Prod.mk.injEq, true_and] at h
        subst h
        refine ⟨hr, fun c hc => ?_, ?_⟩
        · obtain ⟨i, hi, rfl⟩ := List.getElem_of_mem hc
          have e : l.getD i d3 = l[i] := by simp [List.getD_eq_getElem?_getD, List.getElem?_eq_getElem hi]
          have h0 := right_ge hr hi
          have h1 := right_le_last hr hi
          have h2 := (right_spec hr) i hi
          unfold rightAt at h2
          rw [e] at h0 h1 h2
          exact ⟨h0, h2.2.1, by omega⟩
        · rw [← hz, applyTo_fold _ _ _ (Nat.le_refl _), List.take_length]
theorem apply_of_okC {xs ys : List Int} {l : List Chg3} (hr : right l = true) (ho : okC xs.length l) (hf : foldC xs l = some ys) : apply xs l = (0, ys) := by
  refine apply_0 hr (fun ⟨h1, h2⟩ => ?_) ?_
  · have := ho _ (getD_mem (l := l) (i := l.length - 1) (by omega)); omega
  · rw [applyTo_fold _ _ _ (Nat.le_refl _), List.take_length, hf]
theorem getD_set_ne {xs : List Int} {p q : Nat} {v : Int} (h : p ≠ q) : (xs.set p v).getD q 0 = xs.getD q 0 := by
  rw [List.getD_eq_getElem?_getD, List.getElem?_set, if_neg h, List.getD_eq_getElem?_getD]
theorem getD_set_eq {xs : List Int} {p : Nat} {v : Int} (h : p < xs.length) : (xs.set p v).getD p 0 = v := by
  rw [List.getD_eq_getElem?_getD, List.getElem?_set, if_pos rfl, if_pos h]; rfl
theorem stepC_some {xs ys : List Int} {c : Chg3} (h : stepC xs c = some ys) : xs.getD c.at_.toNat 0 = c.old ∧ ys = xs.set c.at_.toNat c.new := by
  unfold stepC at h
  split at h
  · exact ⟨by assumption, (Option.some.inj h).symm⟩
  · cases h
theorem stepC_of {xs : List Int} {c : Chg3} (h : xs.getD c.at_.toNat 0 = c.old) : stepC xs c = some (xs.set c.at_.toNat c.new) := if_pos h
/-- a word that no change touches may be put ahead of them -/
theorem foldC_set {p : Nat} {v : Int} : ∀ (l : List Chg3) (xs ys : List Int), (∀ c ∈ l, c.at_.toNat ≠ p) → foldC xs l = some ys → foldC (xs.set p v) l = some (ys.set p v) ∧ xs.getD p 0 = ys.getD p 0 ∧ ys.length = xs.length
  | [], xs, ys, _, h => by obtain rfl := Option.some.inj h; exact ⟨rfl, rfl, rfl⟩
  | c :: l, xs, ys, hn, h => by
    have hc := hn c (by simp)
    cases hs : stepC xs c with
    | none => rw [foldC, hs] at h; cases h
    | some zs =>
      rw [foldC, hs] at h
      obtain ⟨h1, rfl⟩ := stepC_some hs
      obtain ⟨h2, h3, h4⟩ := foldC_set (p := p) (v := v) l _ ys (fun c hc => hn c (by simp [hc])) h
      refine ⟨?_, ?_, by simpa using h4⟩
      · rw [foldC, stepC_of (by rw [getD_set_ne (Ne.symm hc)]; exact h1), List.set_comm _ _ (Ne.symm hc)]
        exact h2
      · rw [← h3, getD_set_ne hc]
theorem join_fold (n : Nat) : ∀ (k : Nat) (l m : List Chg3) (xs ys zs : List Int), l.length + m.length ≤ k → sortedC l → sortedC m → okC n l → okC n m → xs.length = n → foldC xs l = some ys → foldC ys m = some zs →
    ∃ j, mergeJ l m = some j ∧ foldC xs j = some zs ∧ sortedC j ∧ okC n j ∧ (∀ p : Int, (∀ c ∈ l, p < c.at_) → (∀ c ∈ m, p < c.at_) → ∀ c ∈ j, p < c.at_)
  | k, [], m, xs, ys, zs, _, _, hm, _, om, _, h1, h2 => by
    obtain rfl := Option.some.inj h1
    exact ⟨m, mergeJ_nil m, h2, hm, om, fun p _ h => h⟩
  | k, a :: l, [], xs, ys, zs, _, hl, _, ol, _, _, h1, h2 => by
    obtain rfl := Option.some.inj h2
    exact ⟨_, mergeJ_nil2 _, h1, hl, ol, fun p h _ => h⟩
  | 0, a :: l, b :: m, _, _, _, hk, _, _, _, _, _, _, _ => by simp at hk
  | k + 1, a :: l, b :: m, xs, ys, zs, hk, hl, hm, ol, om, hn, h1, h2 => by
    simp only [List.length_cons] at hk
    have hl' : sortedC l := (List.pairwise_cons.1 hl).2
    have hm' : sortedC m := (List.pairwise_cons.1 hm).2
    have la := (List.pairwise_cons.1 hl).1
    have mb := (List.pairwise_cons.1 hm).1
    have ol' : okC n l := fun c hc => ol c (by simp [hc])
    have om' : okC n m := fun c hc => om c (by simp [hc])
    have oa := ol a (by simp)
    have ob := om b (by simp)
    by_cases hlt : a.at_ < b.at_
    · cases hs : stepC xs a with
      | none => rw [foldC, hs] at h1; cases h1
      | some x1 =>
        rw [foldC, hs] at h1
        obtain ⟨_, rfl⟩ := stepC_some hs
        obtain ⟨j, g1, g2, g3, g4, g5⟩ := join_fold n k l (b :: m) _ ys zs (by simp; omega) hl' hm ol' om (by simpa using hn) h1 h2
        refine ⟨a :: j, by rw [mergeJ_lt hlt, g1]; rfl, by rw [foldC, hs]; exact g2, List.pairwise_cons.2 ⟨g5 a.at_ la ?_, g3⟩, ?_, ?_⟩
        · intro c hc
          rcases List.mem_cons.1 hc with rfl | hc
          · exact hlt
          · have := mb c hc; omega
        · intro c hc
          rcases List.mem_cons.1 hc with rfl | hc
          · exact oa
          · exact g4 c hc
        · intro p p1 p2 c hc
          rcases List.mem_cons.1 hc with rfl | hc
          · exact p1 _ (by simp)
          · exact g5 p (fun c hc => p1 c (by simp [hc])) p2 c hc
    · cases hs : stepC ys b with
      | none => rw [foldC, hs] at h2; cases h2
      | some y1 =>
        rw [foldC, hs] at h2
        obtain ⟨hb, rfl⟩ := stepC_some hs
        by_cases hgt : a.at_ > b.at_
        · have hne : ∀ c ∈ a :: l, c.at_.toNat ≠ b.at_.toNat := fun c hc => by
            have oc := ol c hc
            rcases List.mem_cons.1 hc with rfl | hc
            · omega
            · have := la c hc; omega
          obtain ⟨s1, s2, _⟩ := foldC_set (p := b.at_.toNat) (v := b.new) (a :: l) xs ys hne h1
          obtain ⟨j, g1, g2, g3, g4, g5⟩ := join_fold n k (a :: l) m _ _ zs (by simp; omega) hl hm' ol om' (by simpa using hn) s1 h2
          have hs' : stepC xs b = some (xs.set b.at_.toNat b.new) := stepC_of (by rw [s2]; exact hb)
          refine ⟨b :: j, by rw [mergeJ_gt hlt hgt, g1]; rfl, by rw [foldC, hs']; exact g2, List.pairwise_cons.2 ⟨g5 b.at_ ?_ mb, g3⟩, ?_, ?_⟩
          · intro c hc
            rcases List.mem_cons.1 hc with rfl | hc
            · exact hgt
            · have := la c hc; omega
          · intro c hc
            rcases List.mem_cons.1 hc with rfl | hc
            · exact ob
            · exact g4 c hc
          · intro p p1 p2 c hc
            rcases List.mem_cons.1 hc with rfl | hc
            · exact p2 _ (by simp)
            · exact g5 p p1 (fun c hc => p2 c (by simp [hc])) c hc
        · have hab : a.at_ = b.at_ := by omega
          have hne : ∀ c ∈ l, c.at_.toNat ≠ b.at_.toNat := fun c hc => by
            have := la c hc; omega
          cases hs1 : stepC xs a with
          | none => rw [foldC, hs1] at h1; cases h1
          | some x1 =>
            rw [foldC, hs1] at h1
            obtain ⟨ha, rfl⟩ := stepC_some hs1
            obtain ⟨s1, s2, _⟩ := foldC_set (p := b.at_.toNat) (v := b.new) l _ ys hne h1
            rw [hab] at ha s1 s2
            rw [List.set_set] at s1
            rw [getD_set_eq (by omega)] at s2
            have hnb : a.new = b.old := by rw [s2]; exact hb
            obtain ⟨j, g1, g2, g3, g4, g5⟩ := join_fold n k l m _ _ zs (by omega) hl' hm' ol' om' (by simpa using hn) s1 h2
            by_cases hob : a.old = b.new
            · refine ⟨j, by rw [mergeJ_away hlt hgt hnb hob, g1], ?_, g3, g4, fun p p1 p2 => g5 p (fun c hc => p1 c (by simp [hc])) (fun c hc => p2 c (by simp [hc]))⟩
              rw [← hob, ← ha] at g2
              have : xs.set b.at_.toNat (xs.getD b.at_.toNat 0) = xs := by
                apply List.ext_getElem?
                intro q
                rw [List.getElem?_set]
                by_cases hq : b.at_.toNat = q
                · subst hq
                  rw [if_pos rfl, if_pos (by omega), List.getD_eq_getElem?_getD, List.getElem?_eq_getElem (by omega)]; rfl
                · rw [if_neg hq]
              rw [this] at g2
              exact g2
            · have hs' : stepC xs ⟨a.at_, a.old, b.new⟩ = some (xs.set b.at_.toNat b.new) := by
                have := stepC_of (xs := xs) (c := ⟨a.at_, a.old, b.new⟩) (by rw [hab]; exact ha)
                rw [this, hab]
              refine ⟨⟨a.at_, a.old, b.new⟩ :: j, by rw [mergeJ_eq hlt hgt hnb hob, g1]; rfl, by rw [foldC, hs']; exact g2, List.pairwise_cons.2 ⟨g5 a.at_ la ?_, g3⟩, ?_, ?_⟩
              · intro c hc
                have := mb c hc; omega
              · intro c hc
                rcases List.mem_cons.1 hc with rfl | hc
                · exact ⟨oa.1, hob, oa.2.2⟩
                · exact g4 c hc
              · intro p p1 p2 c hc
                rcases List.mem_cons.1 hc with rfl | hc
                · exact p1 a (by simp)
                · exact g5 p (fun c hc => p1 c (by simp [hc])) (fun c hc => p2 c (by simp [hc])) c hc
theorem join_apply {xs ys zs : List Int} {l m : List Chg3} (h1 : apply xs l = (0, ys)) (h2 : apply ys m = (0, zs)) : ∃ j, joinR l m = (0, j) ∧ apply xs j = (0, zs) := by
  obtain ⟨r1, o1, f1⟩ := okC_of h1
  obtain ⟨r2, o2, f2⟩ := okC_of h2
  have hl : ys.length = xs.length := by
    unfold apply at h1
    split at h1
    · cases h1
    · split at h1
      · cases h1
      · split at h1
        · cases h1
        · rename_i zs hz
          simp only [Prod.mk.injEq, true_and] at h1
          subst h1
          have : ∀ k ys, applyTo xs l k = some ys → ys.length = xs.length := by
            intro k
            induction k with
            | zero => intro ys h; obtain rfl : xs = ys := Option.some.inj h; rfl
            | succ k ih =>
              intro ys h
              cases hz : applyTo xs l k with
              | none => rw [show applyTo xs l (k + 1) = (applyTo xs l k).bind _ from rfl, hz] at h; cases h
              | some ws =>
                rw [show applyTo xs l (k + 1) = (applyTo xs l k).bind _ from rfl, hz] at h
                have h5 : (if ws.getD (l.getD k d3).at_.toNat 0 = (l.getD k d3).old then some (ws.set (l.getD k d3).at_.toNat (l.getD k d3).new) else none) = some ys := h
                split at h5
                case isFalse => cases h5
                case isTrue => obtain rfl := Option.some.inj h5; rw [List.length_set]; exact ih ws hz
          exact this _ _ hz
  rw [hl] at o2
  obtain ⟨j, g1, g2, g3, g4, _⟩ := join_fold xs.length _ l m xs ys zs (Nat.le_refl _) (sorted_of_right r1) (sorted_of_right r2) o1 o2 rfl f1 f2
  have hr := right_of_sorted g3 g4
  exact ⟨j, joinR_0 r1 r2 g1, apply_of_okC hr g4 g2⟩
theorem merge_len : ∀ (k : Nat) (l m j : List Chg3), l.length + m.length ≤ k → mergeJ l m = some j → j.length ≤ l.length + m.length
  | k, [], m, j, _, h => by rw [mergeJ_nil] at h; obtain rfl := Option.some.inj h; simp
  | k, a :: l, [], j, _, h => by rw [mergeJ_nil2] at h; obtain rfl := Option.some.inj h; simp
  | 0, a :: l, b :: m, j, hk, _ => by simp at hk
  | k + 1, a :: l, b :: m, j, hk, h => by
    simp only [List.length_cons] at hk ⊢
    by_cases h1 : a.at_ < b.at_
    · rw [mergeJ_lt h1] at h
      obtain ⟨x, hx, rfl⟩ := Option.map_eq_some_iff.1 h
      have := merge_len k l (b :: m) x (by simp; omega) hx
      simp at this ⊢; omega
    · by_cases h2 : a.at_ > b.at_
      · rw [mergeJ_gt h1 h2] at h
        obtain ⟨x, hx, rfl⟩ := Option.map_eq_some_iff.1 h
        have := merge_len k (a :: l) m x (by simp; omega) hx
        simp at this ⊢; omega
      · by_cases h3 : a.new = b.old
        · by_cases h4 : a.old = b.new
          · rw [mergeJ_away h1 h2 h3 h4] at h
            have := merge_len k l m j (by omega) h
            omega
          · rw [mergeJ_eq h1 h2 h3 h4] at h
            obtain ⟨x, hx, rfl⟩ := Option.map_eq_some_iff.1 h
            have := merge_len k l m x (by omega) hx
            simp at this ⊢; omega
        · rw [mergeJ_no h1 h2 h3] at h; cases h
theorem joinR_len (l m : List Chg3) : (joinR l m).2.length ≤ l.length + m.length := by
  unfold joinR
  split
  · split
    · exact Nat.zero_le _
    · rename_i j h; exact merge_len _ l m j (Nat.le_refl _) h
  · exact Nat.zero_le _
/-! the reference's way: by the least number above the last one -/
def leastP (l m : List Chg3) (above z : Int) : Prop := above < z ∧ (∀ k, k < l.length → above < (l.getD k d3).at_ → z ≤ (l.getD k d3).at_) ∧ (∀ k, k < m.length → above < (m.getD k d3).at_ → z ≤ (m.getD k d3).at_)
def noneP (l m : List Chg3) (above : Int) : Prop := (∀ k, k < l.length → (l.getD k d3).at_ ≤ above) ∧ (∀ k, k < m.length → (m.getD k d3).at_ ≤ above)
/-- the least so far, of i of the first and j of the second -/
def LB (l m : List Chg3) (above : Int) (i j : Nat) (best : Int) : Prop :=
  ((best = -1 ∧ (∀ k, k < i → (l.getD k d3).at_ ≤ above) ∧ (∀ k, k < j → (m.getD k d3).at_ ≤ above)) ∨
   (above < best ∧ ((∃ k, k < l.length ∧ (l.getD k d3).at_ = best) ∨ (∃ k, k < m.length ∧ (m.getD k d3).at_ = best)) ∧ (∀ k, k < i → above < (l.getD k d3).at_ → best ≤ (l.getD k d3).at_) ∧ (∀ k, k < j → above < (m.getD k d3).at_ → best ≤ (m.getD k d3).at_)))
theorem LB_zero (l m : List Chg3) (above : Int) : LB l m above 0 0 (-1) := .inl ⟨rfl, fun k h => by omega, fun k h => by omega⟩
theorem LB_i {l m : List Chg3} {above best z : Int} {i j : Nat} (ha : -1 ≤ above) (h : LB l m above i j best) (hi : i < l.length)
    (hz : (z = (l.getD i d3).at_ ∧ above < (l.getD i d3).at_ ∧ (best < 0 ∨ (l.getD i d3).at_ < best)) ∨ (z = best ∧ ((l.getD i d3).at_ ≤ above ∨ (¬ best < 0 ∧ best ≤ (l.getD i d3).at_)))) : LB l m above (i + 1) j z := by
  have hs : ∀ k, k < i + 1 → k < i ∨ k = i := fun k h => by omega
  rcases hz with ⟨rfl, h1, h2⟩ | ⟨rfl, h2⟩
  · rcases h with ⟨h3, h4, h5⟩ | ⟨h3, h4, h5, h6⟩
    · exact .inr ⟨h1, .inl ⟨i, hi, rfl⟩, fun k hk ha => by rcases hs k hk with h | rfl <;> first | omega | (have := h4 k h; omega), fun k hk ha => by have := h5 k hk; omega⟩
    · exact .inr ⟨h1, .inl ⟨i, hi, rfl⟩, fun k hk ha => by rcases hs k hk with h | rfl <;> first | omega | (have := h5 k h ha; omega), fun k hk ha => by have := h6 k hk ha; omega⟩
  · rcases h with ⟨h3, h4, h5⟩ | ⟨h3, h4, h5, h6⟩
    · exact .inl ⟨h3, fun k hk => by rcases hs k hk with h | rfl <;> first | omega | exact h4 k h, h5⟩
    · exact .inr ⟨h3, h4, fun k hk ha => by rcases hs k hk with h | rfl <;> first | omega | exact h5 k h ha, h6⟩
theorem LB_j {l m : List Chg3} {above best z : Int} {i j : Nat} (ha : -1 ≤ above) (h : LB l m above i j best) (hi : j < m.length)
    (hz : (z = (m.getD j d3).at_ ∧ above < (m.getD j d3).at_ ∧ (best < 0 ∨ (m.getD j d3).at_ < best)) ∨ (z = best ∧ ((m.getD j d3).at_ ≤ above ∨ (¬ best < 0 ∧ best ≤ (m.getD j d3).at_)))) : LB l m above i (j + 1) z := by
  have hs : ∀ k, k < j + 1 → k < j ∨ k = j := fun k h => by omega
  rcases hz with ⟨rfl, h1, h2⟩ | ⟨rfl, h2⟩
  · rcases h with ⟨h3, h4, h5⟩ | ⟨h3, h4, h5, h6⟩
    · exact .inr ⟨h1, .inr ⟨j, hi, rfl⟩, fun k hk ha => by have := h4 k hk; omega, fun k hk ha => by rcases hs k hk with h | rfl <;> first | omega | (have := h5 k h; omega)⟩
    · exact .inr ⟨h1, .inr ⟨j, hi, rfl⟩, fun k hk ha => by have := h5 k hk ha; omega, fun k hk ha => by rcases hs k hk with h | rfl <;> first | omega | (have := h6 k h ha; omega)⟩
  · rcases h with ⟨h3, h4, h5⟩ | ⟨h3, h4, h5, h6⟩
    · exact .inl ⟨h3, h4, fun k hk => by rcases hs k hk with h | rfl <;> first | omega | exact h5 k h⟩
    · exact .inr ⟨h3, h4, h5, fun k hk ha => by rcases hs k hk with h | rfl <;> first | omega | exact h6 k h ha⟩
theorem LB_end {l m : List Chg3} {above best : Int} {i j : Nat} (h : LB l m above i j best) (hi : i = l.length) (hj : j = m.length) : (best = -1 ∧ noneP l m above) ∨ leastP l m above best := by
  subst hi hj
  rcases h with ⟨h3, h4, h5⟩ | ⟨h3, h4, h5, h6⟩
  · exact .inl ⟨h3, h4, h5⟩
  · exact .inr ⟨h3, h5, h6⟩
theorem LB_end2 {l m : List Chg3} {above best : Int} {i j : Nat} (h : LB l m above i j best) (hi : i = l.length) (hj : j = m.length) : (best = -1 ∧ noneP l m above) ∨ (leastP l m above best ∧ ((∃ k, k < l.length ∧ (l.getD k d3).at_ = best) ∨ (∃ k, k < m.length ∧ (m.getD k d3).at_ = best))) := by
  subst hi hj
  rcases h with ⟨h3, h4, h5⟩ | ⟨h3, h4, h5, h6⟩
  · exact .inl ⟨h3, h4, h5⟩
  · exact .inr ⟨⟨h3, h5, h6⟩, h4⟩
/-- what the reference has made behind all numbers up to one -/
def JI (l m : List Chg3) (at_ : Int) (n : Nat) (out : List Chg3) : Prop :=
  ∃ i j, mK l m (l.drop i) (m.drop j) out ∧ i ≤ l.length ∧ j ≤ m.length ∧ n ≤ i + j ∧ (∀ k, k < i → (l.getD k d3).at_ ≤ at_) ∧ (∀ k, i ≤ k → k < l.length → at_ < (l.getD k d3).at_) ∧ (∀ k, k < j → (m.getD k d3).at_ ≤ at_) ∧ (∀ k, j ≤ k → k < m.length → at_ < (m.getD k d3).at_)
theorem JI_zero {l m : List Chg3} (hl : right l = true) (hm : right m = true) : JI l m (-1) 0 [] :=
  ⟨0, 0, mK_zero l m, by omega, by omega, by omega, fun k h => by omega, fun k _ h => by have := right_ge hl h; omega, fun k h => by omega, fun k _ h => by have := right_ge hm h; omega⟩
theorem right_le {l : List Chg3} (h : right l = true) {j k : Nat} (hk : k < l.length) (hj : j ≤ k) : (l.getD j d3).at_ ≤ (l.getD k d3).at_ := by
  rcases Nat.lt_or_eq_of_le hj with hj | rfl
  · exact Int.le_of_lt (right_lt h hk hj)
  · exact Int.le_refl _
theorem drop_getD {l : List Chg3} (i : Nat) : (l.drop i).getD 0 d3 = l.getD i d3 := by
  rw [List.getD_eq_getElem?_getD, List.getElem?_drop, Nat.add_zero, List.getD_eq_getElem?_getD]
theorem find_i {l : List Chg3} {at_ z : Int} {i k : Nat} (hl : right l = true) (h1 : ∀ k, k < i → (l.getD k d3).at_ ≤ at_) (h2 : ∀ k, i ≤ k → k < l.length → at_ < (l.getD k d3).at_) (hz : at_ < z) (hmin : ∀ k, k < l.length → at_ < (l.getD k d3).at_ → z ≤ (l.getD k d3).at_) (hk : k < l.length) (he : (l.getD k d3).at_ = z) : k = i := by
  by_cases h : k < i
  · have := h1 k h; omega
  · by_cases h' : k = i
    · exact h'
    · have h3 := right_lt hl hk (j := i) (by omega)
      have h4 := hmin i (by omega) (h2 i (Nat.le_refl _) (by omega))
      omega
theorem past_i {l : List Chg3} {at_ z : Int} {i : Nat} (hl : right l = true) (h1 : ∀ k, k < i → (l.getD k d3).at_ ≤ at_) (hz : at_ < z) (he : (l.getD i d3).at_ = z) : (∀ k, k < i + 1 → (l.getD k d3).at_ ≤ z) ∧ (∀ k, i + 1 ≤ k → k < l.length → z < (l.getD k d3).at_) := by
  refine ⟨fun k hk => ?_, fun k hk hk2 => ?_⟩
  · by_cases h : k = i
    · subst h; omega
    · have := h1 k (by omega); omega
  · have := right_lt hl hk2 (j := i) (by omega); omega
theorem past_n {l : List Chg3} {at_ z : Int} {i : Nat} (h1 : ∀ k, k < i → (l.getD k d3).at_ ≤ at_) (h2 : ∀ k, i ≤ k → k < l.length → at_ < (l.getD k d3).at_) (hz : at_ < z) (hmin : ∀ k, k < l.length → at_ < (l.getD k d3).at_ → z ≤ (l.getD k d3).at_) (hno : ∀ k, k < l.length → (l.getD k d3).at_ ≠ z) :
    (∀ k, k < i → (l.getD k d3).at_ ≤ z) ∧ (∀ k, i ≤ k → k < l.length → z < (l.getD k d3).at_) := by
  refine ⟨fun k hk => by have := h1 k hk; omega, fun k hk hk2 => ?_⟩
  have := hmin k hk2 (h2 k hk hk2); have := hno k hk2; omega
section
variable {l m out : List Chg3} {at_ z : Int} {n a b : Nat}
theorem JI_none (h : JI l m at_ n out) (hn : noneP l m at_) : mergeJ l m = some out := by
  obtain ⟨i, j, h1, h2, h3, h4, h5, h6, h7, h8⟩ := h
  have hi : i = l.length := Classical.byContradiction fun hc => by have := h6 i (Nat.le_refl _) (by omega); have := hn.1 i (by omega); omega
  have hj : j = m.length := Classical.byContradiction fun hc => by have := h8 j (Nat.le_refl _) (by omega); have := hn.2 j (by omega); omega
  exact mK_done h1 (by simp; omega) (by simp; omega)
theorem JI_full (h : JI l m at_ n out) (hn : l.length + m.length ≤ n) : mergeJ l m = some out := by
  obtain ⟨i, j, h1, h2, h3, h4, _⟩ := h
  exact mK_done h1 (by simp; omega) (by simp; omega)
theorem JI_no (hl : right l = true) (hm : right m = true) (h : JI l m at_ n out) (hz : leastP l m at_ z) (ha : a < l.length) (ea : (l.getD a d3).at_ = z) (hb : b < m.length) (eb : (m.getD b d3).at_ = z) (hne : ¬ (l.getD a d3).new = (m.getD b d3).old) : mergeJ l m = none := by
  obtain ⟨i, j, h1, h2, h3, h4, h5, h6, h7, h8⟩ := h
  obtain rfl := find_i hl h5 h6 hz.1 hz.2.1 ha ea
  obtain rfl := find_i hm h7 h8 hz.1 hz.2.2 hb eb
  exact mK_no h1 (by simp; omega) (by simp; omega) (by rw [drop_getD, drop_getD]; omega) (by rw [drop_getD, drop_getD]; exact hne)
theorem JI_eq (hl : right l = true) (hm : right m = true) (h : JI l m at_ n out) (hz : leastP l m at_ z) (ha : a < l.length) (ea : (l.getD a d3).at_ = z) (hb : b < m.length) (eb : (m.getD b d3).at_ = z) (hne : (l.getD a d3).new = (m.getD b d3).old) (ho : ¬ (l.getD a d3).old = (m.getD b d3).new) :
    JI l m z (n + 1) (out ++ [⟨z, (l.getD a d3).old, (m.getD b d3).new⟩]) := by
  obtain ⟨i, j, h1, h2, h3, h4, h5, h6, h7, h8⟩ := h
  obtain rfl := find_i hl h5 h6 hz.1 hz.2.1 ha ea
  obtain rfl := find_i hm h7 h8 hz.1 hz.2.2 hb eb
  have := mK_eq h1 (by simp; omega) (by simp; omega) (by rw [drop_getD, drop_getD]; omega) (by rw [drop_getD, drop_getD]; exact hne) (by rw [drop_getD, drop_getD]; exact ho)
  rw [drop_getD, drop_getD, List.drop_drop, List.drop_drop, ea] at this
  obtain ⟨p1, p2⟩ := past_i hl h5 hz.1 ea
  obtain ⟨p3, p4⟩ := past_i hm h7 hz.1 eb
  exact ⟨_, _, this, by omega, by omega, by omega, p1, p2, p3, p4⟩
theorem JI_away (hl : right l = true) (hm : right m = true) (h : JI l m at_ n out) (hz : leastP l m at_ z) (ha : a < l.length) (ea : (l.getD a d3).at_ = z) (hb : b < m.length) (eb : (m.getD b d3).at_ = z) (hne : (l.getD a d3).new = (m.getD b d3).old) (ho : (l.getD a d3).old = (m.getD b d3).new) :
    JI l m z (n + 1) out := by
  obtain ⟨i, j, h1, h2, h3, h4, h5, h6, h7, h8⟩ := h
  obtain rfl := find_i hl h5 h6 hz.1 hz.2.1 ha ea
  obtain rfl := find_i hm h7 h8 hz.1 hz.2.2 hb eb
  have := mK_away h1 (by simp; omega) (by simp; omega) (by rw [drop_getD, drop_getD]; omega) (by rw [drop_getD, drop_getD]; exact hne) (by rw [drop_getD, drop_getD]; exact ho)
  rw [List.drop_drop, List.drop_drop] at this
  obtain ⟨p1, p2⟩ := past_i hl h5 hz.1 ea
  obtain ⟨p3, p4⟩ := past_i hm h7 hz.1 eb
  exact ⟨_, _, this, by omega, by omega, by omega, p1, p2, p3, p4⟩
theorem JI_l (hl : right l = true) (h : JI l m at_ n out) (hz : leastP l m at_ z) (ha : a < l.length) (ea : (l.getD a d3).at_ = z) (hb : ∀ k, k < m.length → (m.getD k d3).at_ ≠ z) : JI l m z (n + 1) (out ++ [l.getD a d3]) := by
  obtain ⟨i, j, h1, h2, h3, h4, h5, h6, h7, h8⟩ := h
  obtain rfl := find_i hl h5 h6 hz.1 hz.2.1 ha ea
  obtain ⟨p1, p2⟩ := past_i hl h5 hz.1 ea
  obtain ⟨p3, p4⟩ := past_n h7 h8 hz.1 hz.2.2 hb
  have : mK l m ((l.drop a).drop 1) (m.drop j) (out ++ [(l.drop a).getD 0 d3]) := by
    by_cases hj : j < m.length
    · exact mK_lt h1 (by simp; omega) (by simp; omega) (by rw [drop_getD, drop_getD]; have := p4 j (Nat.le_refl _) hj; omega)
    · exact mK_l h1 (by simp; omega) (by simp; omega)
  rw [drop_getD, List.drop_drop] at this
  exact ⟨_, _, this, by omega, by omega, by omega, p1, p2, p3, p4⟩
theorem JI_m (hm : right m = true) (h : JI l m at_ n out) (hz : leastP l m at_ z) (hb : b < m.length) (eb : (m.getD b d3).at_ = z) (ha : ∀ k, k < l.length → (l.getD k d3).at_ ≠ z) : JI l m z (n + 1) (out ++ [m.getD b d3]) := by
  obtain ⟨i, j, h1, h2, h3, h4, h5, h6, h7, h8⟩ := h
  obtain rfl := find_i hm h7 h8 hz.1 hz.2.2 hb eb
  obtain ⟨p1, p2⟩ := past_n h5 h6 hz.1 hz.2.1 ha
  obtain ⟨p3, p4⟩ := past_i hm h7 hz.1 eb
  have : mK l m (l.drop i) ((m.drop b).drop 1) (out ++ [(m.drop b).getD 0 d3]) := by
    by_cases hj : i < l.length
    · exact mK_gt h1 (by simp; omega) (by simp; omega) (by rw [drop_getD, drop_getD]; have := p2 i (Nat.le_refl _) hj; omega)
    · exact mK_m h1 (by simp; omega) (by simp; omega)
  rw [drop_getD, List.drop_drop] at this
  exact ⟨_, _, this, by omega, by omega, by omega, p1, p2, p3, p4⟩
end
theorem pair_of {x : Int × List Chg3} {a : Int} (h : x.1 = a) : x = (a, x.2) := by subst h; rfl
theorem join_law {xs : List Int} {l m : List Chg3} (h1 : (apply xs l).1 = 0) (h2 : (apply (apply xs l).2 m).1 = 0) :
    (joinR l m).1 = 0 ∧ (apply xs (joinR l m).2).1 = 0 ∧ (apply xs (joinR l m).2).2 = (apply (apply xs l).2 m).2 := by
  have e1 : apply xs l = (0, (apply xs l).2) := by rw [← h1]
  have e2 : apply (apply xs l).2 m = (0, (apply (apply xs l).2 m).2) := by rw [← h2]
  obtain ⟨j, g1, g2⟩ := join_apply e1 e2
  rw [g1]
  exact ⟨rfl, by rw [g2], by rw [g2]⟩

end Go.Proofs.Ytcmlompigmhddaa
