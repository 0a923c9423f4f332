import Derived.Test.YtnehocjmgnhhhaaDoorFrs
import Derived.Test.YtnehocjmgnhhhaaDoorFpl
/- Reports: a state read out of a text: plain. -/
namespace Go.Proofs.YtnehocjmgnhhhaaDoor
open Go.RowKit
set_option linter.unusedVariables false
attribute [local irreducible] K.KW K.RW K.DW K.OW K.QR K.KC
instance (x : Int) : Decidable (isU32 x) := inferInstanceAs (Decidable (_ ∧ _))
/-- all of them, or none -/
def mapO {α : Type} (f : List UInt8 → Option α) : List (List UInt8) → Option (List α)
  | [] => some []
  | x :: r => match f x with
    | none => none
    | some a => (mapO f r).map (a :: ·)
theorem mapO_snoc {α : Type} {f : List UInt8 → Option α} {a : α} {x : List UInt8} : ∀ {L : List (List UInt8)} {o : List α}, mapO f L = some o → f x = some a → mapO f (L ++ [x]) = some (o ++ [a])
  | [], o, h, ha => by simp only [mapO, Option.some.injEq] at h; subst h; simp [mapO, ha]
  | y :: r, o, h, ha => by
    simp only [mapO, List.cons_append] at h ⊢
    cases hy : f y with
    | none => rw [hy] at h; simp at h
    | some b =>
      rw [hy] at h
      simp only [Option.map_eq_some_iff] at h
      obtain ⟨o', h1, rfl⟩ := h
      simp only [mapO_snoc h1 ha]; rfl
theorem mapO_next {α : Type} {f : List UInt8 → Option α} {a : α} {L : List (List UInt8)} {o : List α} {j : Nat} (h : mapO f (L.take j) = some o) (hj : j < L.length) (ha : f (L.getD j []) = some a) : mapO f (L.take (j + 1)) = some (o ++ [a]) := by
  rw [List.take_succ_eq_append_getElem hj]
  exact mapO_snoc h (by simpa [hj] using ha)
theorem mapO_fail {α : Type} {f : List UInt8 → Option α} : ∀ {L : List (List UInt8)} {j : Nat}, j < L.length → f (L.getD j []) = none → mapO f L = none
  | [], _, h, _ => by simp at h
  | x :: r, 0, _, h => by
    have h : f x = none := h
    simp only [mapO, h]
  | x :: r, j + 1, hj, h => by
    simp only [mapO]
    cases f x with
    | none => rfl
    | some a => simp only [mapO_fail (L := r) (j := j) (by simpa using hj) (by simpa using h)]; rfl
theorem mapO_of {α : Type} {f : List UInt8 → Option α} {g : α → List UInt8} : ∀ {o : List α}, (∀ a ∈ o, f (g a) = some a) → mapO f (o.map g) = some o
  | [], _ => rfl
  | a :: r, h => by
    simp only [List.map_cons, mapO, h a (by simp), mapO_of (o := r) (fun b hb => h b (by simp [hb]))]; rfl
def rdV (x : List UInt8) : Option Int := if 0 ≤ numR x 4294967295 then some (numR x 4294967295) else none
def rdP (x : List UInt8) : Option PairM := if (K.cutS 61 x).2.2 = true ∧ 0 ≤ numR (K.cutS 61 x).1 4294967295 ∧ 0 ≤ numR (K.cutS 61 x).2.1 4294967295 then some ⟨numR (K.cutS 61 x).1 4294967295, numR (K.cutS 61 x).2.1 4294967295⟩ else none
def rdRow {α : Type} (nm : List UInt8) (f : List UInt8 → Option α) (l : List UInt8) : Option (List α) := if (K.spl 32 l).getD 0 [] = nm then mapO f ((K.spl 32 l).drop 1) else none
def qN : List UInt8 := [113, 117, 101, 117, 101]
def sN : List UInt8 := [115, 101, 116]
def mN : List UInt8 := [109, 97, 112]
/-- the state of a text, as the code reads it -/
def readSt (l : List UInt8) : Option StM :=
  if (K.spl 10 l).length = 4 ∧ (K.spl 10 l).getD 3 [] = [] then
    match rdRow qN rdV ((K.spl 10 l).getD 0 []), rdRow sN rdV ((K.spl 10 l).getD 1 []), rdRow mN rdP ((K.spl 10 l).getD 2 []) with
    | some q, some s, some m => some ⟨q, s, m⟩
    | _, _, _ => none
  else none
theorem readSt_some {l : List UInt8} {q s : List Int} {m : List PairM} (h1 : (K.spl 10 l).length = 4) (h2 : (K.spl 10 l).getD 3 [] = []) (hq : rdRow qN rdV ((K.spl 10 l).getD 0 []) = some q) (hs : rdRow sN rdV ((K.spl 10 l).getD 1 []) = some s) (hm : rdRow mN rdP ((K.spl 10 l).getD 2 []) = some m) : readSt l = some ⟨q, s, m⟩ := by
  unfold readSt; rw [if_pos ⟨h1, h2⟩, hq, hs, hm]
theorem readSt_len {l : List UInt8} (h : ¬ ((K.spl 10 l).length = 4 ∧ (K.spl 10 l).getD 3 [] = [])) : readSt l = none := by unfold readSt; rw [if_neg h]
theorem readSt_q {l : List UInt8} (h : rdRow qN rdV ((K.spl 10 l).getD 0 []) = none) : readSt l = none := by
  unfold readSt; rw [h]; split <;> rfl
theorem readSt_s {l : List UInt8} (h : rdRow sN rdV ((K.spl 10 l).getD 1 []) = none) : readSt l = none := by
  unfold readSt; rw [h]; split
  · cases rdRow qN rdV ((K.spl 10 l).getD 0 []) <;> rfl
  · rfl
theorem readSt_m {l : List UInt8} (h : rdRow mN rdP ((K.spl 10 l).getD 2 []) = none) : readSt l = none := by
  unfold readSt; rw [h]; split
  · cases rdRow qN rdV ((K.spl 10 l).getD 0 []) <;> cases rdRow sN rdV ((K.spl 10 l).getD 1 []) <;> rfl
  · rfl
theorem rdV_vR {a : Int} (h : isU32 a) : rdV (vR a) = some a := by
  have h1 : numR (vR a) 4294967295 = a := by
    have := numR_dgR (n := a) (m := 4294967295) h.1 h.2 (by omega)
    rwa [dgR_nat h.1] at this
  unfold rdV; rw [h1, if_pos h.1]
theorem dg_no {n : Nat} {c : UInt8} (hc : ¬ isD c) : ∀ y ∈ dg n, y ≠ c := fun y hy e => hc (e ▸ dgD n y hy)
theorem index_mid {a b : List UInt8} {c : UInt8} (h : ∀ y ∈ a, y ≠ c) : Lib.index (a ++ c :: b) [c] = (a.length : Nat) := by
  induction a with
  | nil => simp [Lib.index]
  | cons x r ih =>
    have ih := ih fun y hy => h y (by simp [hy])
    have hx := h x (by simp)
    rw [List.cons_append, Lib.index, if_neg (by simp [Ne.symm hx]), ih, if_neg (by first | (simp; done) | (simp; omega))]
    rfl
theorem cut_mid {a b : List UInt8} {c : UInt8} (h : ∀ y ∈ a, y ≠ c) : K.cutS c (a ++ c :: b) = (a, b, true) := by
  unfold K.cutS
  rw [index_mid h, if_pos (by omega), Int.toNat_natCast]
  simp
theorem rdP_pR {p : PairM} (h : isP p) : rdP (pR p) = some p := by
  have e1 : numR (dg p.key.toNat) 4294967295 = p.key := by
    have := numR_dgR (n := p.key) (m := 4294967295) h.1.1 h.1.2 (by omega)
    rwa [dgR_nat h.1.1] at this
  have e2 : numR (dg p.val.toNat) 4294967295 = p.val := by
    have := numR_dgR (n := p.val) (m := 4294967295) h.2.1 h.2.2 (by omega)
    rwa [dgR_nat h.2.1] at this
  have hc : K.cutS 61 (pR p) = (dg p.key.toNat, dg p.val.toNat, true) := cut_mid (dg_no (by unfold isD; decide))
  unfold rdP
  rw [hc]
  simp only [e1, e2]
  rw [if_pos ⟨trivial, h.1.1, h.2.1⟩]
theorem vR_no {a : Int} {c : UInt8} (hc : ¬ isD c) : ∀ y ∈ vR a, y ≠ c := dg_no hc
theorem pR_no {p : PairM} {c : UInt8} (hc : ¬ isD c) (h61 : c ≠ 61) : ∀ y ∈ pR p, y ≠ c := by
  intro y hy
  unfold pR at hy
  rcases List.mem_append.1 hy with hy | hy
  · exact dg_no hc y hy
  · rcases List.mem_cons.1 hy with rfl | hy
    · exact Ne.symm h61
    · exact dg_no hc y hy
/-- the words of a row's line -/
theorem spl_row {α : Type} {nm : List UInt8} {f : α → List UInt8} {L : List α} (hn : ∀ y ∈ nm, y ≠ 32) (hf : ∀ a, ∀ y ∈ f a, y ≠ 32) : K.spl 32 (K.jn 32 (nm :: L.map f)) = nm :: L.map f :=
  K.spl_jn 32 (by simp) fun x hx => by
    rcases List.mem_cons.1 hx with rfl | hx
    · exact hn
    · obtain ⟨a, _, rfl⟩ := List.mem_map.1 hx; exact hf a
theorem jn_no {c d : UInt8} (hcd : d ≠ c) : ∀ {xs : List (List UInt8)}, (∀ x ∈ xs, ∀ y ∈ x, y ≠ c) → ∀ y ∈ K.jn d xs, y ≠ c
  | [], _ => by simp [K.jn]
  | [x], h => by simp only [K.jn]; exact h x (by simp)
  | x :: z :: r, h => by
    intro y hy
    have hy : y ∈ x ++ d :: K.jn d (z :: r) := hy
    rcases List.mem_append.1 hy with hy | hy
    · exact h x (by simp) y hy
    · rcases List.mem_cons.1 hy with rfl | hy
      · exact hcd
      · exact jn_no hcd (xs := z :: r) (fun q hq => h q (by simp [hq])) y hy
theorem row_no {α : Type} {nm : List UInt8} {f : α → List UInt8} {L : List α} (hn : ∀ y ∈ nm, y ≠ 10) (hf : ∀ a, ∀ y ∈ f a, y ≠ 10) : ∀ y ∈ K.jn 32 (nm :: L.map f), y ≠ 10 :=
  jn_no (by decide) fun x hx => by
    rcases List.mem_cons.1 hx with rfl | hx
    · exact hn
    · obtain ⟨a, _, rfl⟩ := List.mem_map.1 hx; exact hf a
/-- the lines of a state's text -/
theorem spl_st (S : StM) : K.spl 10 (stR S) = [K.jn 32 (qN :: S.q.map vR), K.jn 32 (sN :: S.s.map vR), K.jn 32 (mN :: S.m.map pR), []] := by
  have e : stR S = K.jn 32 (qN :: S.q.map vR) ++ 10 :: (K.jn 32 (sN :: S.s.map vR) ++ 10 :: (K.jn 32 (mN :: S.m.map pR) ++ 10 :: [])) := by
    unfold stR rowR; simp [qN, sN, mN]
  rw [e, K.spl_hit (row_no (by decide) fun a => vR_no (by unfold isD; decide)), K.spl_hit (row_no (by decide) fun a => vR_no (by unfold isD; decide)), K.spl_hit (row_no (by decide) fun a => pR_no (by unfold isD; decide) (by decide))]
  rfl
theorem mem_getD {α : Type} {L : List α} {a d : α} (h : a ∈ L) : ∃ i, L.getD i d = a := by
  obtain ⟨i, hi, rfl⟩ := List.mem_iff_getElem.1 h
  exact ⟨i, by simp [hi]⟩
theorem rdRow_hit {α : Type} {nm l : List UInt8} {f : List UInt8 → Option α} {r : List (List UInt8)} (h : K.spl 32 l = nm :: r) : rdRow nm f l = mapO f r := by
  unfold rdRow; rw [h]; exact if_pos rfl
theorem readSt_stR {S : StM} (h : S.fits) : readSt (stR S) = some S := by
  obtain ⟨h1, h2, h3⟩ := h
  have e := spl_st S
  refine readSt_some (q := S.q) (s := S.s) (m := S.m) (by rw [e]; rfl) (by rw [e]; rfl) ?_ ?_ ?_
  · rw [e]
    exact (rdRow_hit (spl_row (by decide) fun a => vR_no (by unfold isD; decide))).trans (mapO_of fun a ha => by obtain ⟨i, rfl⟩ := mem_getD (d := 0) ha; exact rdV_vR (h1 i))
  · rw [e]
    exact (rdRow_hit (spl_row (by decide) fun a => vR_no (by unfold isD; decide))).trans (mapO_of fun a ha => by obtain ⟨i, rfl⟩ := mem_getD (d := 0) ha; exact rdV_vR (h2 i))
  · rw [e]
    exact (rdRow_hit (spl_row (by decide) fun a => pR_no (by unfold isD; decide) (by decide))).trans (mapO_of fun a ha => by obtain ⟨i, rfl⟩ := mem_getD (d := p0) ha; exact rdP_pR (h3 i))
end Go.Proofs.YtnehocjmgnhhhaaDoor
