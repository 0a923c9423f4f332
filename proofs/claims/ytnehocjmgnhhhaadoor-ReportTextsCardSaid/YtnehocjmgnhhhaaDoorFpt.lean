import Derived.Test.YtnehocjmgnhhhaaDoorFsu3
/- Reports: the text of a state: the plain law. -/
namespace Go.Proofs.YtnehocjmgnhhhaaDoor
open Go.RowKit
set_option linter.unusedVariables false
attribute [local irreducible] K.KW K.RW K.DW K.OW K.QR K.KC
theorem spl1_no {w : List UInt8} (h : ∀ y ∈ w, y ≠ 61) : K.spl 61 w = [w] := K.spl_none h
theorem valT_vR {a : Int} (h : isU32 a) : valT 0 (vR a) = a := by
  have e := spl1_no (w := vR a) (vR_no (by unfold isD; decide))
  have h1 : numR (vR a) 4294967295 = a := by
    have := numR_dgR (n := a) (m := 4294967295) h.1 h.2 (by omega)
    rwa [dgR_nat h.1] at this
  unfold valT
  rw [e, if_pos (by simp)]
  show max (numR (vR a) 4294967295) 0 = a
  rw [h1]; have := h.1; omega
theorem spl_pR (p : PairM) : K.spl 61 (pR p) = [dg p.key.toNat, dg p.val.toNat] := by
  unfold pR
  rw [K.spl_hit (dg_no (by unfold isD; decide)), K.spl_none (dg_no (by unfold isD; decide))]
theorem valT_pR {p : PairM} (h : isP p) : valT 0 (pR p) = p.key ∧ valT 1 (pR p) = p.val := by
  have e1 := valT_vR h.1; have e2 := valT_vR h.2
  have h1 : numR (dg p.key.toNat) 4294967295 = p.key := by
    have := numR_dgR (n := p.key) (m := 4294967295) h.1.1 h.1.2 (by omega)
    rwa [dgR_nat h.1.1] at this
  have h2 : numR (dg p.val.toNat) 4294967295 = p.val := by
    have := numR_dgR (n := p.val) (m := 4294967295) h.2.1 h.2.2 (by omega)
    rwa [dgR_nat h.2.1] at this
  have k1 := h.1.1; have k2 := h.2.1
  unfold valT
  rw [spl_pR]
  refine ⟨?_, ?_⟩
  · rw [if_pos (by simp)]; show max (numR (dg p.key.toNat) 4294967295) 0 = _; rw [h1]; omega
  · rw [if_pos (by simp)]; show max (numR (dg p.val.toNat) 4294967295) 0 = _; rw [h2]; omega
theorem map_id_of {α : Type} {f : α → α} : ∀ {L : List α}, (∀ a ∈ L, f a = a) → L.map f = L
  | [], _ => rfl
  | a :: r, h => by rw [List.map_cons, h a (by simp), map_id_of fun b hb => h b (by simp [hb])]
theorem zip_self : ∀ (L : List PairM), zipP (L.map (·.key)) (L.map (·.val)) = L
  | [] => rfl
  | a :: r => by
    show (⟨a.key, a.val⟩ : PairM) :: zipP (r.map (·.key)) (r.map (·.val)) = _
    rw [zip_self r]
theorem valsT_row {α : Type} {nm : List UInt8} {f : α → List UInt8} {L : List α} {part : Nat} {g : α → Int} (hn : ∀ y ∈ nm, y ≠ 32) (hf : ∀ a, ∀ y ∈ f a, y ≠ 32) (hg : ∀ a ∈ L, valT part (f a) = g a) : valsT part (K.jn 32 (nm :: L.map f)) = L.map g := by
  unfold valsT
  rw [spl_row hn hf]
  show (L.map f).map (valT part) = _
  rw [List.map_map]
  exact List.map_congr_left hg
theorem stP_stR {S : StM} (h : S.fits) : stP (stR S) = S := by
  obtain ⟨h1, h2, h3⟩ := h
  have m1 : ∀ a ∈ S.q, isU32 a := fun a ha => by obtain ⟨i, rfl⟩ := mem_getD (d := 0) ha; exact h1 i
  have m2 : ∀ a ∈ S.s, isU32 a := fun a ha => by obtain ⟨i, rfl⟩ := mem_getD (d := 0) ha; exact h2 i
  have m3 : ∀ a ∈ S.m, isP a := fun a ha => by obtain ⟨i, rfl⟩ := mem_getD (d := p0) ha; exact h3 i
  unfold stP
  rw [spl_st]
  show (⟨valsT 0 (K.jn 32 (qN :: S.q.map vR)), valsT 0 (K.jn 32 (sN :: S.s.map vR)), zipP (valsT 0 (K.jn 32 (mN :: S.m.map pR))) (valsT 1 (K.jn 32 (mN :: S.m.map pR)))⟩ : StM) = S
  rw [valsT_row (g := fun a => a) (by decide) (fun a => vR_no (by unfold isD; decide)) (fun a ha => valT_vR (m1 a ha)), valsT_row (g := fun a => a) (by decide) (fun a => vR_no (by unfold isD; decide)) (fun a ha => valT_vR (m2 a ha)),
    valsT_row (part := 0) (g := fun p => p.key) (by decide) (fun a => pR_no (by unfold isD; decide) (by decide)) (fun a ha => (valT_pR (m3 a ha)).1), valsT_row (part := 1) (g := fun p => p.val) (by decide) (fun a => pR_no (by unfold isD; decide) (by decide)) (fun a ha => (valT_pR (m3 a ha)).2),
    map_id_of (fun _ _ => rfl), map_id_of (fun _ _ => rfl), zip_self]
theorem rs_some {l : List UInt8} {S : StM} (h : readSt l = some S) : (K.spl 10 l).length = 4 ∧ stR (stP l) = l ∧ stP l = S := by
  obtain ⟨h1, h2⟩ := stR_readSt h
  have e : stP l = S := by rw [← h1]; exact stP_stR h2
  refine ⟨?_, by rw [e]; exact h1, e⟩
  rw [← h1, spl_st]; rfl
theorem rs_of {l : List UInt8} (h : stR (stP l) = l) : readSt l = some (stP l) := (congrArg readSt h).symm.trans (readSt_stR (stP_fits l))
theorem rs_none {l : List UInt8} {S : StM} (hn : readSt l = none) (hS : S = stP l) (h : stR S = l) : False := by
  subst hS; rw [rs_of h] at hn; cases hn
theorem rs_bad {l : List UInt8} {S : StM} (h : readSt l = some S) (h2 : ¬ ((K.spl 10 l).length = 4 ∧ stR (stP l) = l)) : False := h2 ⟨(rs_some h).1, (rs_some h).2.1⟩
theorem same_t {S T : StM} (h : T = S) : decide (S.q = T.q ∧ S.s = T.s ∧ S.m = T.m) = true := by subst h; simp
theorem bool_no {a b : Bool} (h1 : a = true) (h2 : b = false) (e : a = b) : False := by rw [h1, h2] at e; cases e
end Go.Proofs.YtnehocjmgnhhhaaDoor
