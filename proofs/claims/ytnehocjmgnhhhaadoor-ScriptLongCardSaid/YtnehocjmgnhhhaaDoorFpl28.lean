import Derived.Test.YtnehocjmgnhhhaaDoorFaw28
/- Scripts: long ones (plain). -/
namespace Go.Proofs.YtnehocjmgnhhhaaDoor
open Go.RowKit
set_option linter.unusedVariables false
attribute [local irreducible] K.KW K.RW K.DW K.OW K.QR K.KC
def actS : ActM := ⟨2, 1, 0, 0, 0, 0⟩
def actC : ActM := ⟨4, 0, 0, 0, 0, 0⟩
def stepT (D : List Nat) : List UInt8 := (D.map (rowA actS)).flatten
theorem rowS (d : Nat) : rowA actS d = [115, 116, 101, 112, 32, 49, 32] ++ dg d ++ [10] := by
  have : wordsA actS d = [stepN, [49], dg d] := by unfold wordsA; rw [if_neg (by decide), if_pos (by decide)]; rfl
  unfold rowA; rw [this]; simp [K.jn, stepN]
theorem stepT_nil : stepT [] = [] := rfl
theorem stepT_snoc (D : List Nat) (d : Nat) : stepT (D ++ [d]) = ((stepT D ++ [115, 116, 101, 112, 32, 49, 32]) ++ dg d) ++ [10] := by
  unfold stepT; rw [List.map_append, List.flatten_append]
  show _ ++ (rowA actS d ++ []) = _
  rw [rowS]; simp
theorem actS_rt : rightO actS := by decide
theorem actS_ft : actS.fits := by unfold ActM.fits isI64 actS; simp
theorem actC_rt : rightO actC := by decide
theorem actC_ft : actC.fits := by unfold ActM.fits isI64 actC; simp
theorem read_steps : ∀ (D : List Nat), (∀ d ∈ D, 1 ≤ d ∧ d ≤ 10000) → ∀ (rest : List UInt8) (k : Nat) (O : List ActM), O.length + D.sum ≤ 20000 → readG ((stepT D ++ rest).length + 1) (stepT D ++ rest) k O = readG (rest.length + 1) rest (k + D.length) (O ++ List.replicate D.sum actS)
  | [], _, rest, k, O, _ => by simp [stepT]
  | d :: r, hD, rest, k, O, hO => by
    have hd := hD d (by simp)
    rw [List.sum_cons] at hO
    have e : stepT (d :: r) ++ rest = rowA actS d ++ (stepT r ++ rest) := by unfold stepT; rw [List.map_cons, List.flatten_cons, List.append_assoc]
    obtain ⟨r1, r2, r3⟩ := arow_act (rest := stepT r ++ rest) actS_rt actS_ft hd (.inl rfl)
    have hne : ¬ stepT (d :: r) ++ rest = [] := by rw [e, rowS]; simp
    rw [← e] at r1 r2 r3
    have key := readG_ok (L := stepT (d :: r) ++ rest) (k := k) (O := O) rfl hne r1 (by rw [r2]) (by rw [r2]; show ¬ 20000 < (O.length : Int) + ((d : Nat) : Int); omega)
    rw [← key, r2, r3]
    show readG _ _ _ (O ++ List.replicate ((d : Nat) : Int).toNat actS) = _
    rw [Int.toNat_natCast, read_steps r (fun x hx => hD x (by simp [hx])) rest (k + 1) _ (by rw [List.length_append, List.length_replicate]; omega), List.append_assoc, List.replicate_append_replicate, List.sum_cons, List.length_cons, show k + 1 + r.length = k + (r.length + 1) by omega]
theorem readM_steps {D : List Nat} (hD : ∀ d ∈ D, 1 ≤ d ∧ d ≤ 10000) (h : D.sum ≤ 20000) (hl : (stepT D).length ≤ 65536) : readM (stepT D) = (List.replicate D.sum actS, 0, 0) := by
  unfold readM; rw [if_neg (by omega)]
  have := read_steps D hD [] 0 [] (by simpa using h)
  rw [List.append_nil] at this
  rw [this]; rfl
theorem crashE {D : List Nat} (hD : ∀ d ∈ D, 1 ≤ d ∧ d ≤ 10000) (h : D.sum ≤ 20000) (hl : (stepT D).length ≤ 65000) : (readM (stepT D ++ [99, 114, 97, 115, 104, 10])).2.2 = if D.sum = 20000 then 2 else 0 := by
  unfold readM; rw [if_neg (by rw [List.length_append]; simp; omega), read_steps D hD _ 0 [] (by simpa using h)]
  obtain ⟨r1, r2, r3⟩ := arow_act (a := actC) (n := 1) (rest := []) actC_rt actC_ft ⟨by omega, by omega⟩ (.inr (.inr rfl))
  rw [show rowA actC 1 ++ [] = [99, 114, 97, 115, 104, 10] by decide] at r1 r2 r3
  by_cases h2 : D.sum = 20000
  · rw [if_pos h2]
    rw [readG_big (L := [99, 114, 97, 115, 104, 10]) rfl (by simp) r1 (by rw [r2]) (by rw [r2, List.nil_append, List.length_replicate]; show (20000 : Int) < (D.sum : Int) + ((1 : Nat) : Int); omega)]
  · rw [if_neg h2]
    have key := readG_ok (L := [99, 114, 97, 115, 104, 10]) (k := 0 + D.length) (O := [] ++ List.replicate D.sum actS) rfl (by simp) r1 (by rw [r2]) (by rw [r2, List.nil_append, List.length_replicate]; show ¬ (20000 : Int) < (D.sum : Int) + ((1 : Nat) : Int); omega)
    rw [← key, r3]; rfl
theorem rep_getD {j q : Nat} (h : q < j) : (List.replicate j actC).getD q act0 = actC := by
  rw [List.getD_eq_getElem?_getD, List.getElem?_replicate, if_pos h]; rfl
theorem rep_rt (j : Nat) : allRt (List.replicate j actC) := fun q hq => by rw [List.length_replicate] at hq; rw [rep_getD hq]; exact actC_rt
theorem rep_af (j : Nat) : allAf (List.replicate j actC) := fun q => by
  rcases Nat.lt_or_ge q j with h | h
  · rw [rep_getD h]; exact actC_ft
  · rw [List.getD_eq_getElem?_getD, List.getElem?_eq_none (by simpa using h)]; unfold ActM.fits isI64; simp [act0]
theorem rdSt_ok (w0 : World) (D : List Nat) (hD : ∀ d ∈ D, 1 ≤ d ∧ d ≤ 10000) (h : D.sum ≤ 20000) (hl : (stepT D).length ≤ 65000) : K.GC Tryd.prog w0 27 #[.string (K.sb (stepT D))] [] (fun v post => ∃ r g k, post = [g] ∧ v = .tuple #[.slice r D.sum k, .int .i64 0, .int .i64 0]) := by
  refine (sread_ok w0 (stepT D) (by omega)).mono ?_
  rintro v post ⟨r, g, k, rfl, rfl, ho⟩
  rw [readM_steps hD h (by omega), List.length_replicate]
  exact ⟨r, g, k, rfl, rfl⟩
theorem rdCr_ok (w0 : World) (D : List Nat) (hD : ∀ d ∈ D, 1 ≤ d ∧ d ≤ 10000) (h : D.sum ≤ 20000) (hl : (stepT D).length ≤ 65000) : K.GC Tryd.prog w0 27 #[.string (K.sb (stepT D ++ [99, 114, 97, 115, 104, 10]))] [] (fun v post => ∃ r g k n m, post = [g] ∧ ((D.sum = 20000 ∧ v = .tuple #[.slice r n k, .int .i64 m, .int .i64 2]) ∨ (¬ D.sum = 20000 ∧ v = .tuple #[.slice r n k, .int .i64 m, .int .i64 0]))) := by
  refine (sread_ok w0 _ (by rw [List.length_append]; simp; omega)).mono ?_
  rintro v post ⟨r, g, k, rfl, rfl, ho⟩
  rw [crashE hD h hl]
  by_cases h2 : D.sum = 20000
  · rw [if_pos h2]; exact ⟨r, g, k, _, _, rfl, .inl ⟨h2, rfl⟩⟩
  · rw [if_neg h2]; exact ⟨r, g, k, _, _, rfl, .inr ⟨h2, rfl⟩⟩
theorem rdLo_ok (w0 : World) (l : List UInt8) (h : 65536 < l.length) (hl : l.length ≤ 1000000) : K.GC Tryd.prog w0 27 #[.string (K.sb l)] [] (fun v post => ∃ r g k, post = [g] ∧ v = .tuple #[.slice r 0 k, .int .i64 0, .int .i64 2]) := by
  refine (sread_ok w0 l hl).mono ?_
  rintro v post ⟨r, g, k, rfl, rfl, ho⟩
  rw [show readM l = ([], 0, 2) by unfold readM; rw [if_pos h]]
  exact ⟨r, g, k, rfl, rfl⟩
end Go.Proofs.YtnehocjmgnhhhaaDoor
