import Derived.Test.YtbfafebfkdbglaaGreatKg
/- Groups of memory: 'clear' of a whole row of the call's own. -/
namespace Go.Proofs.YtbfafebfkdbglaaGreat
open Go.RowKit
set_option linter.unusedVariables false
namespace K
section
variable {P : Program} {n : Nat} {F : Fr} {w w0 : World} {ls : List Cs} {K : Fr → World → Prop}
theorem OW.gcallw {o : Oper} {dd : Option Nat} {f : FuncId} {x : Operand} {l : List Operand} {ats : Array TypeId} {R : Value → List Cs → Prop} {v1 v2 : List Value} (hS : Sat w0 ls w) (is rest : List Nat) (vs : List Value) (hk : GC P w0 f vs.toArray (pick is ls) R)
    (h : ∀ v post w', R v post → Sat w0 (post ++ pick rest ls) w' → K (updo F dd v) w') (hd : o.dst = dd := by rfl) (ho : o.op = .call { callee := .value x, args := l.toArray, argTypes := ats } := by rfl) (hx : ev n F x = .func (.func f) v1.toArray v2.toArray := by rfl)
    (hv : v1 ++ l.map (ev n F) ++ v2 = vs := by rfl) (hf : callable P f = true := by kernel_rfl) (hp : (is ++ rest).Nodup := by decide) : OW P n F o w K :=
  OW.gcallv hS is rest vs hk h hx hd ho hv hf hp
/-- a contract on one of three groups that are held as one -/
theorem GC.in3 {f : FuncId} {args : Array Value} {A B md : Cs} {R : Value → List Cs → Prop} (h : GC P w0 f args [md] R) (hn : ∀ v post, R v post → ∃ md' rest, post = md' :: rest) :
    GC P w0 f args [[A, B, md].flatten] (fun v post => ∃ md' rest, R v (md' :: rest) ∧ post = [A, B, md'].flatten :: rest) := fun fr w hS => by
  have h1 : Sat w0 [A, B, md, fr] w := hS.of (by simp)
  have h2 : Sat w0 ([md] ++ [[A, B, fr].flatten]) w := (h1.pick [2, 0, 1, 3]).of (by simp [pick, nth])
  refine KC.mono (h _ w h2) ?_
  rintro v w' ⟨post, hR, hS'⟩
  obtain ⟨md', rest, rfl⟩ := hn v post hR
  have h3 : Sat w0 [md', rest.flatten, A, B, fr] w' := hS'.of (by simp)
  exact ⟨_, ⟨md', rest, hR, rfl⟩, (h3.pick [2, 3, 0, 1, 4]).of (by simp [pick, nth])⟩
end
end K
end Go.Proofs.YtbfafebfkdbglaaGreat

/- Groups of memory: a row of which each element has blocks of its own. -/
namespace Go.Proofs.YtbfafebfkdbglaaGreat
open Go.RowKit
set_option linter.unusedVariables false
namespace K
/-- a row of hs.length elements, sz cells each; el S c g: an element that stands as S has the cells c, and the blocks g -/
def Hands {β : Type} (el : β → List Value → Cs → Prop) (e : TypeId) (sz : Nat) (l : Cs) (a : Option Addr) (hs : List β) : Prop :=
  ∃ (row : Cs) (gs : List Cs) (cs : List (List Value)), l = row ++ gs.flatten ∧ OwnG row e sz a hs.length hs.length cs.flatten ∧ gs.length = hs.length ∧ cs.length = hs.length ∧ (∀ c ∈ cs, c.length = sz) ∧
    ∀ i S, hs[i]? = some S → el S (cs.getD i []) (gs.getD i [])
section
variable {β : Type} {el : β → List Value → Cs → Prop} {e : TypeId} {sz : Nat} {l : Cs} {a : Option Addr} {hs : List β}
theorem fl_at {α : Type} : ∀ {cs : List (List α)} {t : Nat}, t < cs.length → cs.flatten = (cs.take t).flatten ++ (cs.getD t [] ++ (cs.drop (t + 1)).flatten)
  | [], t, h => by simp at h
  | c :: cs, 0, _ => by simp
  | c :: cs, t + 1, h => by
    have ih := fl_at (cs := cs) (t := t) (by simpa using h)
    simp only [List.take_succ_cons, List.flatten_cons, List.drop_succ_cons, List.getD_cons_succ, List.append_assoc]
    rw [ih]
theorem fl_set {α : Type} : ∀ {cs : List (List α)} {t : Nat} (c : List α), t < cs.length → (cs.set t c).flatten = (cs.take t).flatten ++ (c ++ (cs.drop (t + 1)).flatten)
  | [], t, c, h => by simp at h
  | c0 :: cs, 0, c, _ => by simp
  | c0 :: cs, t + 1, c, h => by
    have ih := fl_set (cs := cs) (t := t) c (by simpa using h)
    simp only [List.set_cons_succ, List.take_succ_cons, List.flatten_cons, List.drop_succ_cons, List.append_assoc]
    rw [ih]
theorem fl_lenC {α : Type} {sz : Nat} : ∀ {cs : List (List α)}, (∀ c ∈ cs, c.length = sz) → cs.flatten.length = cs.length * sz
  | [], _ => by simp
  | c :: cs, h => by
    have ih := fl_lenC (cs := cs) (fun x hx => h x (by simp [hx]))
    rw [List.flatten_cons, List.length_append, ih, h c (by simp), List.length_cons, Nat.add_mul, Nat.one_mul, Nat.add_comm]
theorem fl_all {α : Type} {sz : Nat} {cs : List (List α)} (h : ∀ c ∈ cs, c.length = sz) {t : Nat} {c : List α} (hc : c.length = sz) : ∀ x ∈ cs.set t c, x.length = sz := fun x hx => by
  rcases List.mem_or_eq_of_mem_set hx with h1 | h1
  · exact h x h1
  · rw [h1]; exact hc
theorem fl_self {α : Type} : ∀ (cs : List (List α)) (t : Nat), cs.set t (cs.getD t []) = cs
  | [], _ => by simp
  | c :: cs, 0 => by simp
  | c :: cs, t + 1 => by
    have := fl_self cs t
    simp only [List.set_cons_succ, List.getD_cons_succ, this]
/-- the cells of element t are c -/
theorem row_at {w : World} {n cap base : Nat} {cs : List (List Value)} {t j : Nat} {c : List Value} {v : Value} {b : Nat} (ho : Own w base e sz (some ⟨b, 0, none⟩) n cap (cs.set t c).flatten) (hl : cs.length = n) (hs : ∀ c ∈ cs, c.length = sz) (hc : c.length = sz) (ht : t < n) (hj : c[j]? = some v) :
    w.cell? ⟨b, t * sz + j, none⟩ = some v := by
  obtain ⟨cur, h2, h3, h4, h5, h6, h7⟩ := ho.cur
  have hjl : j < sz := by rw [← hc]; exact (List.getElem?_eq_some_iff.1 hj).1
  have e1 : (cs.set t c).flatten[t * sz + j]? = some v := by
    rw [fl_set c (by omega)]
    have e2 : (cs.take t).flatten.length = t * sz := by rw [fl_lenC (fun x hx => hs x (List.mem_of_mem_take hx)), List.length_take]; congr 1; omega
    rw [List.getElem?_append_right (by omega), e2, Nat.add_sub_cancel_left, List.getElem?_append_left (by omega), hj]
  have hlt : t * sz + j < n * sz := by
    have : (t + 1) * sz ≤ n * sz := Nat.mul_le_mul_right _ (by omega)
    rw [Nat.add_mul, Nat.one_mul] at this; omega
  rw [← h7, List.getElem?_take, if_pos hlt] at e1
  unfold World.cell?
  simp only [h3]
  simpa using e1
theorem set_at {cs : List (List Value)} {n t j : Nat} {c vs c' : List Value} (hl : cs.length = n) (hs : ∀ c ∈ cs, c.length = sz) (hc : c.length = sz) (ht : t < n) (hj : j + vs.length ≤ sz) (hc' : c.take j ++ vs ++ c.drop (j + vs.length) = c') :
    (cs.set t c).flatten.take (t * sz + j) ++ vs ++ (cs.set t c).flatten.drop (t * sz + j + vs.length) = (cs.set t c').flatten := by
  rw [fl_set c (by omega), fl_set c' (by omega), ← hc']
  have e2 : (cs.take t).flatten.length = t * sz := by rw [fl_lenC (fun x hx => hs x (List.mem_of_mem_take hx)), List.length_take]; congr 1; omega
  rw [← e2]
  rw [List.take_append, List.take_of_length_le (by omega), Nat.add_sub_cancel_left, List.take_append_of_le_length (by omega)]
  rw [Nat.add_assoc, List.drop_append, List.drop_eq_nil_of_le (by omega), Nat.add_sub_cancel_left, List.drop_append_of_le_length (by omega)]
  simp
theorem row_at0 {w : World} {n cap base : Nat} {cs : List (List Value)} {t j : Nat} {c : List Value} {v : Value} {b : Nat} (ho : Own w base e sz (some ⟨b, 0, none⟩) n cap (cs.set t c).flatten) (hl : cs.length = n) (hs : ∀ c ∈ cs, c.length = sz) (hc : c.length = sz) (ht : t < n) (hj : c[j]? = some v) :
    w.cell? ⟨b, 0 + t * sz + j, none⟩ = some v := by rw [Nat.zero_add]; exact row_at ho hl hs hc ht hj
theorem set_at0 {cs : List (List Value)} {n t j : Nat} {c vs c' : List Value} (hl : cs.length = n) (hs : ∀ c ∈ cs, c.length = sz) (hc : c.length = sz) (ht : t < n) (hj : j + vs.length ≤ sz) (hc' : c.take j ++ vs ++ c.drop (j + vs.length) = c') :
    (cs.set t c).flatten.take (0 + t * sz + j) ++ vs ++ (cs.set t c).flatten.drop (0 + t * sz + j + vs.length) = (cs.set t c').flatten := by rw [Nat.zero_add]; exact set_at hl hs hc ht hj hc'
/-- the element t laid open, and shut again -/
theorem Hands.open_ (h : Hands el e sz l a hs) (t : Nat) (S : β) (hS : hs[t]? = some S) :
    ∃ (row A g B : Cs) (cs : List (List Value)), l = row ++ (A ++ (g ++ B)) ∧ cs.length = hs.length ∧ (∀ c ∈ cs, c.length = sz) ∧ t < hs.length ∧ (cs.getD t []).length = sz ∧ el S (cs.getD t []) g ∧ OwnG row e sz a hs.length hs.length (cs.set t (cs.getD t [])).flatten ∧
      ∀ (row' g' : Cs) (S' : β) (c' : List Value), c'.length = sz → el S' c' g' → OwnG row' e sz a hs.length hs.length (cs.set t c').flatten → Hands el e sz (row' ++ (A ++ (g' ++ B))) a (hs.set t S') := by
  obtain ⟨row, gs, cs, hl, ho, h1, h2, h3, h4⟩ := h
  have ht : t < hs.length := (List.getElem?_eq_some_iff.1 hS).1
  have hc : (cs.getD t []).length = sz := h3 _ (by
    have : cs.getD t [] = cs[t]'(by omega) := by simp [h2, ht]
    rw [this]; exact List.getElem_mem _)
  refine ⟨row, (gs.take t).flatten, gs.getD t [], (gs.drop (t + 1)).flatten, cs, by rw [hl, fl_at (cs := gs) (t := t) (by omega)], h2, h3, ht, hc, h4 t S hS, by rw [fl_self]; exact ho, ?_⟩
  intro row' g' S' c' hc' hel ho'
  refine ⟨row', gs.set t g', cs.set t c', by rw [fl_set g' (by omega)], by rw [List.length_set]; exact ho', by simp [h1], by simp [h2], fl_all h3 hc', ?_⟩
  intro i X hX
  rw [List.getElem?_set] at hX
  by_cases hi : t = i
  · subst hi
    rw [if_pos rfl, if_pos ht] at hX
    cases hX
    have e1 : (cs.set t c').getD t [] = c' := by simp [h2, ht]
    have e2 : (gs.set t g').getD t [] = g' := by simp [h1, ht]
    rw [e1, e2]; exact hel
  · rw [if_neg hi] at hX
    have e1 : (cs.set t c').getD i [] = cs.getD i [] := by simp [List.getD_eq_getElem?_getD, List.getElem?_set, hi]
    have e2 : (gs.set t g').getD i [] = gs.getD i [] := by simp [List.getD_eq_getElem?_getD, List.getElem?_set, hi]
    rw [e1, e2]; exact h4 i X hX
theorem hs_self {t : Nat} {S : β} (h : hs[t]? = some S) : hs.set t S = hs := by
  apply List.ext_getElem?
  intro i
  rw [List.getElem?_set]
  by_cases hi : t = i
  · subst hi; rw [if_pos rfl, if_pos (List.getElem?_eq_some_iff.1 h).1, h]
  · rw [if_neg hi]
theorem QR.remV {P : Program} {n : Nat} {F : Fr} {w : World} {o : Oper} {t y2 : TypeId} {x y : Operand} {k : IntKind} {a b z : Int} (ho : o.op = .binOp .rem t x y y2) (hx : ev n F x = .int k a) (hy : ev n F y = .int k b) (ha : 0 ≤ a) (hb : 1 ≤ b) (hz : a % b = z) : QR P n F o (.int k z) w := by
  unfold QR execOp
  rw [ho]
  have h1 : (eqGuard .rem t x y (.int k a) (.int k b)).run P w = .ok () w := rfl
  have h2 : ¬ b = 0 := by omega
  have h3 : a.tmod b = z := by rw [Int.tmod_eq_emod_of_nonneg ha, hz]
  simp [hx, hy, h1, binOp, Op.intDiv, h2, h3]
/-- all alike, with no blocks -/
theorem Hands.init {row : Cs} {n : Nat} {zs : List Value} {S0 : β} (ho : OwnG row e sz a n n ((List.replicate n zs).flatten)) (hz : zs.length = sz) (h0 : el S0 zs []) : Hands el e sz row a (List.replicate n S0) := by
  refine ⟨row, List.replicate n [], List.replicate n zs, by simp, by simpa using ho, by simp, by simp, fun c hc => by rw [(List.mem_replicate.1 hc).2]; exact hz, ?_⟩
  intro i S hS
  obtain ⟨hi, rfl⟩ : i < n ∧ S0 = S := by
    rw [List.getElem?_replicate] at hS
    split at hS
    · rename_i h; cases hS; exact ⟨h, rfl⟩
    · cases hS
  have e1 : (List.replicate n zs).getD i [] = zs := by simp [hi]
  have e2 : (List.replicate n ([] : Cs)).getD i [] = [] := by simp [hi]
  rw [e1, e2]; exact h0
theorem rep_flat {α : Type} (c : α → List Value) (z : α) : ∀ n, (List.replicate n z).flatMap c = (List.replicate n (c z)).flatten
  | 0 => rfl
  | n + 1 => by rw [List.replicate_succ, List.flatMap_cons, rep_flat c z n, List.replicate_succ, List.flatten_cons]
end
end K
end Go.Proofs.YtbfafebfkdbglaaGreat
