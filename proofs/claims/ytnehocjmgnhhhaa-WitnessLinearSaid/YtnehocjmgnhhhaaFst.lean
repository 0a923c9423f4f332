import Derived.Test.YtnehocjmgnhhhaaFaw2
import Derived.Test.YtnehocjmgnhhhaaKn
/- Witness: the document's Run. -/
namespace Go.Proofs.Ytnehocjmgnhhhaa
open Go.RowKit
set_option linter.unusedVariables false
attribute [local irreducible] K.KW K.RW K.DW K.OW K.QR K.KC
theorem Sat.over {w0 w w' : World} {ls ls' : List K.Cs} (h : K.Sat w0 ls w) (k : K.Sat w ls' w') : ∀ l, ls' = [l, []] → K.Sat w0 (l :: ls) w' := fun l e => by
 subst e
 refine h.add k.chg l ?_ (fun c hc => k.own c (by simp [hc]))
 have := k.nd
 simpa using this
end Go.Proofs.Ytnehocjmgnhhhaa

/- Witness: what the statements call: Same, few. -/
namespace Go.Proofs.Ytnehocjmgnhhhaa
open Go.RowKit
set_option linter.unusedVariables false
attribute [local irreducible] K.KW K.RW K.DW K.OW K.QR K.KC
theorem sameS_ok (w0 : World) (q s m q' s' m' : Option Addr) (cq cs cm cq' cs' cm' : Nat) (S T : StM) (g : K.Cs) (x : RdSt w0 g q s m cq S) (y : RdSt w0 g q' s' m' cq' T) (h1 : S.q.length ≤ 1000000) (h2 : S.s.length ≤ 1000000) (h3 : S.m.length ≤ 1000000) :
  K.GC Try.prog w0 17 #[stA q cq s cs m cm S, stA q' cq' s' cs' m' cm' T] [g] (fun v post => post = [g] ∧ ((S = T ∧ v = .bool true) ∨ (¬ S = T ∧ v = .bool false))) := fun fr w hS => by
 obtain ⟨qa, sa, ma⟩ := S
 obtain ⟨qb, sb, mb⟩ := T
 obtain ⟨x1, x2, x3, _⟩ := x
 obtain ⟨y1, y2, y3, _⟩ := y
 refine K.KC.mono (same8_ok q s m q' s' m' cq cs cm cq' cs' cm' qa sa qb sb ma mb w h1 h2 h3 (x1 _ (hS.pick [0])) (x2 _ (hS.pick [0])) (x3 _ (hS.pick [0])) (y1 _ (hS.pick [0])) (y2 _ (hS.pick [0])) (y3 _ (hS.pick [0]))) ?_
 rintro v w' ⟨rfl, hch⟩
 refine ⟨[g], ⟨rfl, ?_⟩, hS.no hch⟩
 by_cases h : qa = qb ∧ sa = sb ∧ ma = mb
 ·exact .inl ⟨by rw [h.1, h.2.1, h.2.2], congrArg Value.bool (decide_eq_true h)⟩
 ·exact .inr ⟨fun e => h (by simpa using e), congrArg Value.bool (decide_eq_false h)⟩
end Go.Proofs.Ytnehocjmgnhhhaa

/- Witness: rows of states. -/
namespace Go.Proofs.Ytnehocjmgnhhhaa
open Go.RowKit
set_option linter.unusedVariables false
attribute [local irreducible] K.KW K.RW K.DW K.OW K.QR K.KC
instance : DecidableEq StM := fun a b => match a, b with
 | ⟨q, s, m⟩, ⟨q', s', m'⟩ => if h : q = q' ∧ s = s' ∧ m = m' then .isTrue (by obtain ⟨rfl, rfl, rfl⟩ := h; rfl) else .isFalse (fun e => h (by simpa using e))
/-- a state in a row: where its rows lie, and what they hold -/
structure StE where
 q : Option Addr
 cq : Nat
 s : Option Addr
 cs : Nat
 m : Option Addr
 cm : Nat
 S : StM
def cStE (e : StE) : List Value := [.slice e.q e.S.q.length e.cq, .slice e.s e.S.s.length e.cs, .slice e.m e.S.m.length e.cm]
def dStE : StE := ⟨none, 0, none, 0, none, 0, st0⟩
/-- all states of a row can be read in a group -/
def AllRd (w0 : World) (g : K.Cs) (L : List StE) : Prop := ∀ i, i < L.length → RdSt w0 g (L.getD i dStE).q (L.getD i dStE).s (L.getD i dStE).m (L.getD i dStE).cq (L.getD i dStE).S
theorem AllRd.nil {w0 : World} {g : K.Cs} : AllRd w0 g [] := fun i h => by simp at h
theorem AllRd.mono {w0 : World} {g g' : K.Cs} {L : List StE} (h : AllRd w0 g L) (hg : Grow w0 g g') : AllRd w0 g' L := fun i hi => (h i hi).mono hg
theorem getD_app1 {L : List StE} {e : StE} {i : Nat} (h : i < L.length) : (L ++ [e]).getD i dStE = L.getD i dStE := by
 rw [List.getD_eq_getElem?_getD, List.getD_eq_getElem?_getD, List.getElem?_append_left h]
theorem getD_app2 {L : List StE} {e : StE} : (L ++ [e]).getD L.length dStE = e := by
 rw [List.getD_eq_getElem?_getD, List.getElem?_append_right (Nat.le_refl _)]; simp
theorem AllRd.snoc {w0 : World} {g : K.Cs} {L : List StE} {e : StE} (h : AllRd w0 g L) (he : RdSt w0 g e.q e.s e.m e.cq e.S) : AllRd w0 g (L ++ [e]) := fun i hi => by
 rw [List.length_append, List.length_singleton] at hi
 by_cases hc : i < L.length
 ·rw [getD_app1 hc]; exact h i hc
 ·obtain rfl : i = L.length := by omega
  rw [getD_app2]; exact he
theorem AllRd.one {w0 : World} {g : K.Cs} {e : StE} (he : RdSt w0 g e.q e.s e.m e.cq e.S) : AllRd w0 g [e] := AllRd.nil.snoc he
/-- the states of a row -/
def stsE (L : List StE) : List StM := L.map StE.S
theorem stsE_snoc {L : List StE} {e : StE} : stsE (L ++ [e]) = stsE L ++ [e.S] := by simp [stsE]
/-- is a state in a row? -/
def inE (L : List StE) (T : StM) : Prop := ∃ i, i < L.length ∧ (L.getD i dStE).S = T
theorem inE_iff {L : List StE} {T : StM} : inE L T ↔ T ∈ stsE L := by
 unfold inE stsE
 constructor
 ·rintro ⟨i, hi, rfl⟩
  rw [List.getD_eq_getElem?_getD, List.getElem?_eq_getElem hi]
  exact List.mem_map.2 ⟨_, List.getElem_mem hi, rfl⟩
 ·intro h
  obtain ⟨e, he, rfl⟩ := List.mem_map.1 h
  obtain ⟨i, hi, rfl⟩ := List.mem_iff_getElem.1 he
  exact ⟨i, hi, by rw [List.getD_eq_getElem?_getD, List.getElem?_eq_getElem hi]; rfl⟩
/-- each state once, as they came -/
def dedN (d : List StM) : List StM := d.foldl (fun acc S => if S ∈ acc then acc else acc ++ [S]) []
theorem dedN_snoc {d : List StM} {S : StM} : dedN (d ++ [S]) = if S ∈ dedN d then dedN d else dedN d ++ [S] := by
 unfold dedN; rw [List.foldl_append]; rfl
theorem dedN_y {d : List StM} {S : StM} {L : List StE} (h : stsE L = dedN d) (hi : inE L S) : stsE L = dedN (d ++ [S]) := by
 rw [dedN_snoc, if_pos (by rw [← h]; exact inE_iff.1 hi)]; exact h
theorem dedN_n {d : List StM} {e : StE} {L : List StE} (h : stsE L = dedN d) (hi : ¬ inE L e.S) : stsE (L ++ [e]) = dedN (d ++ [e.S]) := by
 rw [dedN_snoc, if_neg (by rw [← h]; exact fun hh => hi (inE_iff.2 hh)), stsE_snoc, h]
/-- by induction from behind -/
theorem snoc_ind {α : Type} {p : List α → Prop} (h0 : p []) (hs : ∀ l x, p l → p (l ++ [x])) (l : List α) : p l := by
 have key : ∀ r : List α, p r.reverse := by
  intro r
  induction r with
  | nil => exact h0
  | cons x r ih => rw [List.reverse_cons]; exact hs _ _ ih
 have := key l.reverse
 rwa [List.reverse_reverse] at this
theorem dedN_mem {d : List StM} {T : StM} : T ∈ dedN d ↔ T ∈ d := by
 refine snoc_ind (p := fun d => T ∈ dedN d ↔ T ∈ d) (by simp [dedN]) (fun d S ih => ?_) d
 rw [dedN_snoc]
 split
 ·rename_i h
  rw [ih, List.mem_append, List.mem_singleton]
  constructor
  ·exact .inl
  ·rintro (h2 | rfl)
   ·exact h2
   ·exact ih.1 h
 ·rw [List.mem_append, List.mem_append, ih]
end Go.Proofs.Ytnehocjmgnhhhaa
