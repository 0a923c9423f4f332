import Derived.Test.YtnehocjmgnhhhaaFin
/- Witness: what the ends of a search are. -/
namespace Go.Proofs.Ytnehocjmgnhhhaa
open Go.RowKit
set_option linter.unusedVariables false
attribute [local irreducible] K.KW K.RW K.DW K.OW K.QR K.KC
def goodU (L : List CallM) (U : List Bool) (o : List Int) : Prop :=
 o.Nodup ∧ (∀ x ∈ o, 0 ≤ x ∧ x < (L.length : Int) ∧ U.getD x.toNat false = false ∧ ¬ ((L.getD x.toNat call0).cr = true ∧ (L.getD x.toNat call0).wh = -1)) ∧
 o.Pairwise (fun x y => ¬ aheadH (L.getD y.toNat call0) (L.getD x.toNat call0)) ∧ ∀ k, k < L.length → U.getD k false = false → (k : Int) ∉ o → (L.getD k call0).cr = true
theorem cr_ahead {L : List CallM} (hr : rightH L) {k : Nat} (hk : k < L.length) (hc : (L.getD k call0).cr = true) (c : CallM) : ¬ aheadH (L.getD k call0) c := fun h => by
 rcases (hr k hk).1.2 with ⟨_, hb⟩ | ⟨h2, _⟩
 ·exact h.1 hb.1.1
 ·rw [hc] at h2; cases h2
theorem self_ahead {L : List CallM} (hr : rightH L) {k : Nat} (hk : k < L.length) : ¬ aheadH (L.getD k call0) (L.getD k call0) := fun h => by
 rcases (hr k hk).1.2 with ⟨_, hb⟩ | ⟨_, ha⟩
 ·exact h.1 hb.1.1
 ·have h1 := h.2
  obtain ⟨⟨_, a1, a2⟩, _⟩ := ha
  omega
theorem mem_ends {L : List CallM} (hr : rightH L) {T : StM} : ∀ (f : Nat) (S : StM) (U : List Bool), U.length = L.length → U.count false < f → (T ∈ endsN L f S U ↔ ∃ o, goodU L U o ∧ runN L S o = some T)
 | 0, _, _, _, h => by omega
 | f + 1, S, U, hU, hc => by
  have ih := mem_ends hr (T := T) f
  show T ∈ (_ ++ _ : List StM) ↔ _
  rw [List.mem_append, List.mem_flatMap]
  constructor
  ·rintro (⟨i, hi, hm⟩ | hm)
   ·have hi := List.mem_range.1 hi
    by_cases hg : goS L S U i
    ·rw [if_pos hg] at hm
     have hun : U.getD i false = false := hg.1.2
     have hcs := count_set (U := U) (i := i) (by omega) hun
     obtain ⟨o, ⟨g1, g2, g3, g4⟩, hrun⟩ := (ih (nxtT S (L.getD i call0)).1 (U.set i true) (by rw [List.length_set, hU]) (by omega)).1 hm
     have hno : ((i : Nat) : Int) ∉ o := fun hx => by
      have := (g2 _ hx).2.2.1
      rw [Int.toNat_natCast, bset_getD (by omega), if_pos rfl] at this; cases this
     have hU2 : ∀ k, (U.set i true).getD k false = false → U.getD k false = false := fun k hk => by
      rw [bset_getD (by omega)] at hk
      split at hk
      ·cases hk
      ·exact hk
     refine ⟨(i : Int) :: o, ⟨List.nodup_cons.2 ⟨hno, g1⟩, fun x hx => ?_, ?_, fun k hk hu hn => ?_⟩, ?_⟩
     ·rcases List.mem_cons.1 hx with rfl | hx
      ·rw [Int.toNat_natCast]; exact ⟨by omega, by omega, hun, hg.2.2⟩
      ·obtain ⟨a1, a2, a3, a4⟩ := g2 x hx
       exact ⟨a1, a2, hU2 _ a3, a4⟩
     ·refine List.pairwise_cons.2 ⟨fun y hy ha => ?_, g3⟩
      obtain ⟨a1, a2, a3, _⟩ := g2 y hy
      rw [Int.toNat_natCast] at ha
      exact hg.1.1 y.toNat (by omega) ⟨hU2 _ a3, ha⟩
     ·refine g4 k hk ?_ (fun hm => hn (List.mem_cons_of_mem _ hm))
      rw [bset_getD (by omega), if_neg (fun e => hn (by rw [← e]; exact List.mem_cons_self))]; exact hu
     ·show (if _ then _ else _) = _
      rw [Int.toNat_natCast, if_pos hg.2.1]; exact hrun
    ·rw [if_neg hg] at hm; simp at hm
   ·by_cases ho : overS L U
    ·rw [if_pos ho, List.mem_singleton] at hm
     subst hm
     refine ⟨[], ⟨List.nodup_nil, fun x hx => by simp at hx, List.Pairwise.nil, fun k hk hu _ => ?_⟩, rfl⟩
     have := ho k hk
     cases hcr : (L.getD k call0).cr with
     | true => rfl
     | false => exact absurd ⟨hu, hcr⟩ this
    ·rw [if_neg ho] at hm; simp at hm
  ·rintro ⟨o, ⟨g1, g2, g3, g4⟩, hrun⟩
   cases o with
   | nil =>
    refine .inr ?_
    have ho : overS L U := fun k hk ⟨hu, hcr⟩ => by
     have := g4 k hk hu (by simp)
     rw [hcr] at this; cases this
    rw [if_pos ho, List.mem_singleton]
    exact (Option.some.inj hrun).symm
   | cons x o =>
    obtain ⟨a1, a2, a3, a4⟩ := g2 x List.mem_cons_self
    have hxn : ((x.toNat : Nat) : Int) = x := by omega
    have hrun : (if (nxtT S (L.getD x.toNat call0)).2 = true then runN L (nxtT S (L.getD x.toNat call0)).1 o else none) = some T := hrun
    by_cases hn : (nxtT S (L.getD x.toNat call0)).2 = true
    ·rw [if_pos hn] at hrun
     rw [List.nodup_cons] at g1
     rw [List.pairwise_cons] at g3
     have hgo : goS L S U x.toNat := by
      refine ⟨⟨fun k hk ⟨hu, ha⟩ => ?_, a3⟩, hn, a4⟩
      by_cases hkx : (k : Int) = x
      ·have : k = x.toNat := by omega
       subst this
       exact self_ahead hr hk ha
      ·by_cases hko : (k : Int) ∈ o
       ·have := g3.1 _ hko
        rw [Int.toNat_natCast] at this; exact this ha
       ·exact cr_ahead hr hk (g4 k hk hu (by simp [hkx, hko])) _ ha
     have hcs := count_set (U := U) (i := x.toNat) (by omega) a3
     refine .inl ⟨x.toNat, List.mem_range.2 (by omega), ?_⟩
     rw [if_pos hgo]
     refine (ih _ _ (by rw [List.length_set, hU]) (by omega)).2 ⟨o, ⟨g1.2, fun y hy => ?_, g3.2, fun k hk hu hko => ?_⟩, hrun⟩
     ·obtain ⟨b1, b2, b3, b4⟩ := g2 y (List.mem_cons_of_mem _ hy)
      refine ⟨b1, b2, ?_, b4⟩
      rw [bset_getD (by omega), if_neg (fun e => g1.1 (by rw [show x = y by omega]; exact hy))]; exact b3
     ·rw [bset_getD (by omega)] at hu
      split at hu
      ·cases hu
      ·rename_i hne
       refine g4 k hk hu fun hm => ?_
       rcases List.mem_cons.1 hm with e | e
       ·exact hne (by omega)
       ·exact hko e
    ·rw [if_neg hn] at hrun; cases hrun
def noneU (L : List CallM) : List Bool := List.replicate L.length false
theorem mem_ends0 {L : List CallM} (hr : rightH L) {S T : StM} : T ∈ endsN L ((List.replicate L.length false).count false + 1) S (List.replicate L.length false) ↔ ∃ o, goodU L (noneU L) o ∧ runN L S o = some T :=
 mem_ends hr _ S _ List.length_replicate (by omega)
theorem rsp_pair {L : List CallM} {Q : List Int} (h : rspP L Q) : Q.Pairwise (fun x y => ¬ aheadH (L.getD y.toNat call0) (L.getD x.toNat call0)) := by
 rw [List.pairwise_iff_getElem]
 intro i j hi hj hij
 have := (h j hj).2 i hij
 rwa [getD_at hi, getD_at hj] at this
theorem pair_rsp {L : List CallM} {Q : List Int} (h : Q.Pairwise (fun x y => ¬ aheadH (L.getD y.toNat call0) (L.getD x.toNat call0))) (hv : ∀ x ∈ Q, 0 ≤ x ∧ x < (L.length : Int)) : rspP L Q := fun i hi => by
 refine ⟨?_, fun k hk => ?_⟩
 ·have := hv _ (getD_mem hi); exact this
 ·have := List.pairwise_iff_getElem.1 h k i (by omega) hi hk
  rwa [getD_at hi, getD_at (by omega : k < Q.length)]
end Go.Proofs.Ytnehocjmgnhhhaa

/- Witness: rows of rows; all orders: plain. -/
namespace Go.Proofs.Ytnehocjmgnhhhaa
open Go.RowKit
set_option linter.unusedVariables false
attribute [local irreducible] K.KW K.RW K.DW K.OW K.QR K.KC
structure InE where
 a : Option Addr
 c : Nat
 L : List Int
def cInE (e : InE) : List Value := [.slice e.a e.L.length e.c]
def dInE : InE := ⟨none, 0, []⟩
def RdI (w0 : World) (g : K.Cs) (a : Option Addr) (L : List Int) : Prop := ∀ w, K.Sat w0 [g] w → K.RowE w a L.length 1 (fun i => cI64 (L.getD i 0))
def AllRi (w0 : World) (g : K.Cs) (L : List InE) : Prop := ∀ i, i < L.length → RdI w0 g (L.getD i dInE).a (L.getD i dInE).L ∧ (L.getD i dInE).L.length ≤ (L.getD i dInE).c
theorem AllRi.nil {w0 : World} {g : K.Cs} : AllRi w0 g [] := fun i h => by simp at h
theorem RdI.mono {w0 : World} {g g' : K.Cs} {a : Option Addr} {L : List Int} (h : RdI w0 g a L) (hg : Grow w0 g g') : RdI w0 g' a L := fun w x => h w (hg w x)
theorem AllRi.mono {w0 : World} {g g' : K.Cs} {L : List InE} (h : AllRi w0 g L) (hg : Grow w0 g g') : AllRi w0 g' L := fun i hi => ⟨(h i hi).1.mono hg, (h i hi).2⟩
theorem getI_app1 {L : List InE} {e : InE} {i : Nat} (h : i < L.length) : (L ++ [e]).getD i dInE = L.getD i dInE := by
 rw [List.getD_eq_getElem?_getD, List.getD_eq_getElem?_getD, List.getElem?_append_left h]
theorem getI_app2 {L : List InE} {e : InE} : (L ++ [e]).getD L.length dInE = e := by
 rw [List.getD_eq_getElem?_getD, List.getElem?_append_right (Nat.le_refl _)]; simp
theorem AllRi.snoc {w0 : World} {g : K.Cs} {L : List InE} {e : InE} (h : AllRi w0 g L) (he : RdI w0 g e.a e.L) (hc : e.L.length ≤ e.c) : AllRi w0 g (L ++ [e]) := fun i hi => by
 rw [List.length_append, List.length_singleton] at hi
 by_cases hc' : i < L.length
 ·rw [getI_app1 hc']; exact h i hc'
 ·obtain rfl : i = L.length := by omega
  rw [getI_app2]; exact ⟨he, hc⟩
theorem rdI_own {w0 : World} {g : K.Cs} {a : Option Addr} {n c : Nat} {L : List Int} (h : K.OwnG g 3 1 a n c (L.flatMap cI64)) (ln : L.length = n) : RdI w0 g a L := fun w hS => by
 subst ln
 exact K.RowE.len (K.Own.rowE 0 (hS.ownr 0 rfl h) rfl (fun _ => rfl)) rfl
def insA (m : Nat) (p : List Int) (k : Nat) : List Int := p.take k ++ [(m : Int)] ++ p.drop k
def insAll (m : Nat) (p : List Int) : List (List Int) := (List.range (p.length + 1)).map (insA m p)
def ordN : Nat → List (List Int)
 | 0 => [[]]
 | m + 1 => (ordN m).flatMap (insAll m)
theorem ordN_len : ∀ {n : Nat} {p : List Int}, p ∈ ordN n → p.length = n
 | 0, p, h => by simp [ordN] at h; subst h; rfl
 | m + 1, p, h => by
  obtain ⟨q, hq, hp⟩ := List.mem_flatMap.1 h
  obtain ⟨k, hk, rfl⟩ := List.mem_map.1 hp
  have := ordN_len hq
  have hk := List.mem_range.1 hk
  simp [insA]; omega
theorem fm_le {β γ : Type} {f : β → List γ} {b : Nat} : ∀ l : List β, (∀ x ∈ l, (f x).length ≤ b) → (l.flatMap f).length ≤ l.length * b
 | [], _ => by simp
 | x :: l, h => by
  rw [List.flatMap_cons, List.length_append, List.length_cons, Nat.succ_mul]
  have h1 := h x List.mem_cons_self
  have h2 := fm_le l fun y hy => h y (List.mem_cons_of_mem _ hy)
  omega
def facN : Nat → Nat
 | 0 => 1
 | m + 1 => facN m * (m + 1)
theorem ordN_fac : ∀ n : Nat, (ordN n).length ≤ facN n
 | 0 => by simp [ordN, facN]
 | m + 1 => by
  have h1 := fm_le (f := insAll m) (b := m + 1) (ordN m) fun p hp => by
   have := ordN_len hp
   simp [insAll, this]
  exact Nat.le_trans h1 (Nat.mul_le_mul_right _ (ordN_fac m))
theorem ordN_cnt : ∀ {n : Nat}, n ≤ 5 → (ordN n).length ≤ 120 := fun {n} h => by
 have : ∀ n : Nat, n < 6 → facN n ≤ 120 := by decide
 exact Nat.le_trans (ordN_fac n) (this n (by omega))
theorem ordN_all : ∀ {n : Nat} {p : List Int}, p.Nodup → (∀ x, x ∈ p ↔ 0 ≤ x ∧ x < (n : Int)) → p ∈ ordN n
 | 0, p, _, h => by
  have : p = [] := List.eq_nil_iff_forall_not_mem.2 fun x hx => by have := (h x).1 hx; omega
  subst this; simp [ordN]
 | m + 1, p, hn, h => by
  obtain ⟨s, t, rfl⟩ := List.append_of_mem ((h (m : Int)).2 ⟨by omega, by omega⟩)
  rw [List.nodup_append, List.nodup_cons] at hn
  obtain ⟨n1, ⟨n2, n3⟩, n4⟩ := hn
  refine List.mem_flatMap.2 ⟨s ++ t, ordN_all (n := m) ?_ (fun x => ?_), List.mem_map.2 ⟨s.length, List.mem_range.2 (by rw [List.length_append]; omega), ?_⟩⟩
  ·rw [List.nodup_append]; exact ⟨n1, n3, fun a ha b hb => n4 a ha b (List.mem_cons_of_mem _ hb)⟩
  ·have hx := h x
   rw [List.mem_append, List.mem_cons] at hx
   rw [List.mem_append]
   constructor
   ·intro hm
    have h1 := hx.1 (hm.elim .inl fun e => .inr (.inr e))
    have hne : x ≠ (m : Int) := fun e => by
     subst e
     rcases hm with hm | hm
     ·exact n4 _ hm _ List.mem_cons_self rfl
     ·exact n2 hm
    omega
   ·rintro ⟨h1, h2⟩
    rcases hx.2 ⟨h1, by omega⟩ with e | e | e
    ·exact .inl e
    ·omega
    ·exact .inr e
  ·unfold insA; simp
theorem ordN_has : ∀ {n : Nat} {p : List Int}, p ∈ ordN n → p.Nodup ∧ ∀ x, x ∈ p ↔ 0 ≤ x ∧ x < (n : Int)
 | 0, p, h => by
  simp [ordN] at h; subst h
  exact ⟨List.nodup_nil, fun x => by first | (simp; done) | (simp; omega)⟩
 | m + 1, p, h => by
  obtain ⟨q, hq, hp⟩ := List.mem_flatMap.1 h
  obtain ⟨k, hk, rfl⟩ := List.mem_map.1 hp
  obtain ⟨h1, h2⟩ := ordN_has hq
  have hnm : ((m : Nat) : Int) ∉ q := fun hm => by have := (h2 _).1 hm; omega
  have hmem : ∀ x, x ∈ insA m q k ↔ x ∈ q ∨ x = (m : Int) := fun x => by
   unfold insA
   rw [List.mem_append, List.mem_append, List.mem_singleton]
   conv => rhs; rw [← List.take_append_drop k q, List.mem_append]
   constructor
   ·rintro ((a | a) | a)
    ·exact .inl (.inl a)
    ·exact .inr a
    ·exact .inl (.inr a)
   ·rintro ((a | a) | a)
    ·exact .inl (.inl a)
    ·exact .inr a
    ·exact .inl (.inr a)
  refine ⟨?_, fun x => ?_⟩
  ·unfold insA
   rw [← List.take_append_drop k q, List.nodup_append] at h1
   rw [List.append_assoc, List.nodup_append]
   refine ⟨h1.1, List.nodup_cons.2 ⟨fun hm => hnm (List.mem_of_mem_drop hm), h1.2.1⟩, fun a ha b hb => ?_⟩
   rcases List.mem_cons.1 hb with rfl | hb
   ·exact fun e => hnm (e ▸ List.mem_of_mem_take ha)
   ·exact h1.2.2 a ha b hb
  ·rw [hmem, h2]; omega
theorem insAll_snoc {m : Nat} {p : List Int} {k : Nat} : (List.range (k + 1)).map (insA m p) = (List.range k).map (insA m p) ++ [insA m p k] := by
 rw [List.range_succ, List.map_append]; rfl
theorem take_fm {β γ : Type} {d : β} {f : β → List γ} {l : List β} {i : Nat} (h : i < l.length) : (l.take (i + 1)).flatMap f = (l.take i).flatMap f ++ f (l.getD i d) := by
 rw [List.take_succ_eq_append_getElem h, List.flatMap_append, List.getD_eq_getElem?_getD, List.getElem?_eq_getElem h]; simp
def lsI (L : List InE) : List (List Int) := L.map InE.L
theorem lsI_len {L : List InE} : (lsI L).length = L.length := by simp [lsI]
theorem lsI_get {L : List InE} {i : Nat} (h : i < L.length) : (lsI L).getD i [] = (L.getD i dInE).L := by
 unfold lsI
 rw [List.getD_eq_getElem?_getD, List.getD_eq_getElem?_getD, List.getElem?_map, List.getElem?_eq_getElem h]; rfl
theorem lsI_snoc {L : List InE} {e : InE} : lsI (L ++ [e]) = lsI L ++ [e.L] := by simp [lsI]
theorem ords_at {L : List InE} {n i : Nat} (h : lsI L = ordN n) (hi : i < L.length) : (L.getD i dInE).L.length = n := by
 refine ordN_len (n := n) ?_
 rw [← h, ← lsI_get hi, List.getD_eq_getElem?_getD, List.getElem?_eq_getElem (by rw [lsI_len]; exact hi)]
 exact List.getElem_mem _
theorem tk_int {p : List Int} {k : Nat} (h : k < p.length) : p.take (k + 1) = p.take k ++ [p.getD k 0] := by
 rw [List.take_succ_eq_append_getElem h, getD_at h]
theorem ins_end {m : Nat} {p : List Int} {k q : Nat} (h : p.length ≤ q) (hk : k ≤ q) : p.take k ++ [(m : Int)] ++ (p.drop k).take (q - k) = insA m p k := by
 unfold insA
 rw [List.take_of_length_le (l := p.drop k) (by rw [List.length_drop]; omega)]
theorem ins_step {m : Nat} {p : List Int} {k q : Nat} (hk : k ≤ q) (hq : q < p.length) : p.take k ++ [(m : Int)] ++ (p.drop k).take (q - k) ++ [p.getD q 0] = p.take k ++ [(m : Int)] ++ (p.drop k).take (q + 1 - k) := by
 rw [List.append_assoc (p.take k ++ [(m : Int)])]
 congr 1
 rw [show q + 1 - k = (q - k) + 1 by omega, tk_int (p := p.drop k) (by rw [List.length_drop]; omega)]
 congr 2
 rw [List.getD_eq_getElem?_getD, List.getD_eq_getElem?_getD, List.getElem?_drop, show k + (q - k) = q by omega]
end Go.Proofs.Ytnehocjmgnhhhaa
