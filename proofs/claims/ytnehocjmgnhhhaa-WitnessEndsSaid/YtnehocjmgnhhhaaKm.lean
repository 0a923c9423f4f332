import Derived.Test.YtnehocjmgnhhhaaKl
import Derived.Great.BuildSlice
import Derived.WalkSpells
/- The step logic's memory: how a world changes, blocks known whole, rows that are read, rows of the call's own; one lemma for each operation that makes or writes memory, and for calls. -/
namespace Go.Proofs.Ytnehocjmgnhhhaa
open Go.RowKit
namespace K
structure Chg (X : Nat → Prop) (w w' : World) : Prop where
  os : w'.os = w.os
  tape : w'.tape = w.tape
  output : w'.output = w.output
  size : w.heap.size ≤ w'.heap.size
  block : ∀ k, k < w.heap.size → ¬ X k → w'.heap[k]? = w.heap[k]?
def No : Nat → Prop := fun _ => False
def Is (b : Nat) : Nat → Prop := fun k => k = b
def Ow (a : Option Addr) : Nat → Prop := fun k => ∃ p, a = some p ∧ k = p.block
theorem Chg.refl (w : World) : Chg No w w := ⟨rfl, rfl, rfl, Nat.le_refl _, fun _ _ _ => rfl⟩
theorem Chg.mono {X Y : Nat → Prop} {w w' : World} (h : Chg X w w') (hs : ∀ k, k < w.heap.size → X k → Y k) : Chg Y w w' :=
  ⟨h.os, h.tape, h.output, h.size, fun k hk hn => h.block k hk (fun hx => hn (hs k hk hx))⟩
theorem Chg.trans {X Y : Nat → Prop} {a b c : World} (h : Chg X a b) (k : Chg Y b c) (hs : ∀ i, i < a.heap.size → Y i → X i) : Chg X a c :=
  ⟨k.os.trans h.os, k.tape.trans h.tape, k.output.trans h.output, Nat.le_trans h.size k.size,
    fun i hi hn => (k.block i (Nat.lt_of_lt_of_le hi h.size) (fun hy => hn (hs i hi hy))).trans (h.block i hi hn)⟩
theorem Chg.drew {X : Nat → Prop} {a b : World} (h : Chg X a b) : Chg X a b.drew := ⟨h.os, h.tape, h.output, h.size, h.block⟩
theorem Chg.no {a b c : World} {X : Nat → Prop} (h : Chg X a b) (k : Chg No b c) : Chg X a c := h.trans k fun _ _ hy => hy.elim
theorem Chg.own {a b c : World} {X : Nat → Prop} {r : Nat} (h : Chg X a b) (k : Chg (Is r) b c) (hr : a.heap.size ≤ r) : Chg X a c := h.trans k fun i hi hy => by unfold Is at hy; omega
theorem Chg.alloc (w : World) (o : Obj) : Chg No w (w.alloc o) := ⟨rfl, rfl, rfl, by simp, fun k hk _ => Below.heap_alloc w o k hk⟩
theorem Chg.cell {X : Nat → Prop} {w w' : World} (h : Chg X w w') {p : Addr} {v : Value} (hc : w.cell? p = some v) (hn : ¬ X p.block) : w'.cell? p = some v :=
  (World.cell?_of_block (h.block p.block (World.block_lt_of_cell? w p hc) hn)).trans hc
theorem Chg.below {B : Nat} {w w' : World} {X : Nat → Prop} (h : Chg X w w') (hB : B ≤ w.heap.size) (hX : ∀ k, k < B → ¬ X k) : Below B w w' :=
  ⟨h.os, h.tape, h.output, h.size, fun k hk => h.block k (by omega) (hX k hk)⟩
theorem Chg.below_no {w w' : World} (h : Chg No w w') : Below w.heap.size w w' := h.below (Nat.le_refl _) fun _ _ => id
/-! ### A block that is known whole -/
def Blk (w : World) (b : Nat) (t : TypeId) (cs : List Value) : Prop := w.heap[b]? = some (.cells cs.toArray t (0, 0))
section
variable {w w' : World} {b : Nat} {t : TypeId} {cs : List Value}
theorem Blk.lt (h : Blk w b t cs) : b < w.heap.size := (Array.getElem?_eq_some_iff.1 h).1
theorem Blk.cell (h : Blk w b t cs) {j : Nat} {v : Value} (hv : cs[j]? = some v) : w.cell? ⟨b, j, none⟩ = some v := by
  rw [cell_of_row w b j cs.toArray t (0, 0) h]; simpa using hv
theorem Blk.chg {X : Nat → Prop} (h : Blk w b t cs) (hc : Chg X w w') (hn : ¬ X b) : Blk w' b t cs := (hc.block b h.lt hn).trans h
theorem Blk.no (h : Blk w b t cs) (hc : Chg No w w') : Blk w' b t cs := h.chg hc id
theorem Blk.new (w : World) (t : TypeId) (cs : List Value) : Blk (w.alloc (.cells cs.toArray t)) w.heap.size t cs := heap_alloc_new w _
theorem Blk.drew (h : Blk w b t cs) : Blk w.drew b t cs := h
theorem Blk.ne {b' : Nat} {t' : TypeId} {cs' : List Value} (h : Blk w b t cs) (h' : Blk w b' t' cs') (hne : t ≠ t') : b ≠ b' := by
  rintro rfl
  unfold Blk at h h'
  rw [h] at h'
  injection h' with h'
  injection h' with _ ht
  exact hne ht
end
/-! ### A slice that is read: its address leads to n cells -/
def Row (w : World) (a : Option Addr) (n : Nat) (f : Nat → Value) : Prop :=
  n = 0 ∨ ∃ b off, a = some ⟨b, off, none⟩ ∧ ∀ j, j < n → w.cell? ⟨b, off + j, none⟩ = some (f j)
section
variable {w w' : World} {a : Option Addr} {n : Nat} {f g : Nat → Value}
theorem Row.zero (w : World) (a : Option Addr) (f : Nat → Value) : Row w a 0 f := .inl rfl
theorem Row.chg {X : Nat → Prop} (h : Row w a n f) (hc : Chg X w w') (hn : ∀ k, Ow a k → ¬ X k) : Row w' a n f := by
  rcases h with h | ⟨b, off, ha, h⟩
  · exact .inl h
  · exact .inr ⟨b, off, ha, fun j hj => hc.cell (h j hj) (hn b ⟨_, ha, rfl⟩)⟩
theorem Row.no (h : Row w a n f) (hc : Chg No w w') : Row w' a n f := h.chg hc fun _ _ => id
theorem Row.congr (h : Row w a n f) (he : ∀ j, j < n → f j = g j) : Row w a n g := by
  rcases h with h | ⟨b, off, ha, hc⟩
  · exact .inl h
  · exact .inr ⟨b, off, ha, fun j hj => (hc j hj).trans (by rw [he j hj])⟩
theorem Row.at_ (h : Row w a n f) (hn : 0 < n) : ∃ b off, a = some ⟨b, off, none⟩ ∧ ∀ j, j < n → w.cell? ⟨b, off + j, none⟩ = some (f j) := by
  rcases h with h | h
  · omega
  · exact h
theorem Row.lt (h : Row w a n f) (hn : 0 < n) : ∀ k, Ow a k → k < w.heap.size := by
  obtain ⟨b, off, rfl, hc⟩ := h.at_ hn
  rintro k ⟨p, hp, rfl⟩
  cases hp
  exact World.block_lt_of_cell? w _ (hc 0 hn)
end
def RowE (w : World) (a : Option Addr) (n sz : Nat) (g : Nat → List Value) : Prop :=
  n = 0 ∨ ∃ b off, a = some ⟨b, off, none⟩ ∧ ∀ i, i < n → ∀ j v, (g i)[j]? = some v → w.cell? ⟨b, off + i * sz + j, none⟩ = some v
section
variable {w w' : World} {a : Option Addr} {n sz : Nat} {g g' : Nat → List Value}
theorem RowE.chg {X : Nat → Prop} (h : RowE w a n sz g) (hc : Chg X w w') (hn : ∀ k, Ow a k → ¬ X k) : RowE w' a n sz g := by
  rcases h with h | ⟨b, off, ha, h⟩
  · exact .inl h
  · exact .inr ⟨b, off, ha, fun i hi j v hv => hc.cell (h i hi j v hv) (hn b ⟨_, ha, rfl⟩)⟩
theorem RowE.no (h : RowE w a n sz g) (hc : Chg No w w') : RowE w' a n sz g := h.chg hc fun _ _ => id
theorem RowE.congr (h : RowE w a n sz g) (he : ∀ i, i < n → g i = g' i) : RowE w a n sz g' := by
  rcases h with h | ⟨b, off, ha, hc⟩
  · exact .inl h
  · exact .inr ⟨b, off, ha, fun i hi j v hv => hc i hi j v (by rw [he i hi]; exact hv)⟩
theorem RowE.at_ (h : RowE w a n sz g) (hn : 0 < n) : ∃ b off, a = some ⟨b, off, none⟩ ∧ ∀ i, i < n → ∀ j v, (g i)[j]? = some v → w.cell? ⟨b, off + i * sz + j, none⟩ = some v := by
  rcases h with h | h
  · omega
  · exact h
theorem RowE.zero (w : World) (a : Option Addr) (sz : Nat) (g : Nat → List Value) : RowE w a 0 sz g := .inl rfl
theorem RowE.ld {b off : Nat} (h : RowE w (some ⟨b, off, none⟩) n sz g) (i : Nat) (hi : i < n) (j : Nat) (v : Value) (hv : (g i)[j]? = some v) : w.cell? ⟨b, off + i * sz + j, none⟩ = some v := by
  obtain ⟨b', off', ha, hc⟩ := h.at_ (by omega)
  simp only [Option.some.injEq, Addr.mk.injEq, and_true] at ha
  obtain ⟨rfl, rfl⟩ := ha
  exact hc i hi j v hv
theorem RowE.lt (h : RowE w a n sz g) (hn : 0 < n) (hg : ∃ v, (g 0)[0]? = some v) : ∀ k, Ow a k → k < w.heap.size := by
  obtain ⟨b, off, rfl, hc⟩ := h.at_ hn
  obtain ⟨v, hv⟩ := hg
  rintro k ⟨p, hp, rfl⟩
  cases hp
  exact World.block_lt_of_cell? w ⟨b, off + 0 * sz + 0, none⟩ (hc 0 hn 0 v hv)
theorem Row.rowE {f : Nat → Value} (h : Row w a n f) : RowE w a n 1 (fun i => [f i]) := by
  rcases h with h | ⟨b, off, ha, h⟩
  · exact .inl h
  · refine .inr ⟨b, off, ha, fun i hi j v hv => ?_⟩
    match j, hv with
    | 0, hv =>
      simp only [List.getElem?_cons_zero, Option.some.injEq] at hv
      subst hv
      rw [Nat.mul_one, Nat.add_zero]
      exact h i hi
end
theorem flat_get {α : Type} (c : α → List Value) (sz : Nat) (hc : ∀ x, (c x).length = sz) : ∀ (L : List α) (d : α) (i j : Nat) (v : Value), i < L.length → (c (L.getD i d))[j]? = some v → (L.flatMap c)[i * sz + j]? = some v
  | [], _, i, _, _, hi, _ => by simp at hi
  | x :: L, d, 0, j, v, _, hv => by
    have hj : j < (c x).length := (List.getElem?_eq_some_iff.1 hv).1
    simp only [List.flatMap_cons, Nat.zero_mul, Nat.zero_add]
    rw [List.getElem?_append_left hj]
    exact hv
  | x :: L, d, i + 1, j, v, hi, hv => by
    simp only [List.flatMap_cons]
    rw [List.getElem?_append_right (by rw [hc, Nat.add_mul]; omega), hc, show (i + 1) * sz + j - sz = i * sz + j by rw [Nat.add_mul]; omega]
    exact flat_get c sz hc L d i j v (by simpa using hi) (by simpa using hv)
theorem flat_len {α : Type} (c : α → List Value) (sz : Nat) (hc : ∀ x, (c x).length = sz) : ∀ (L : List α), (L.flatMap c).length = L.length * sz
  | [] => by simp
  | x :: L => by simp only [List.flatMap_cons, List.length_append, hc, flat_len c sz hc L, List.length_cons, Nat.add_mul, Nat.one_mul]; omega
theorem take_splice (l : List Value) (k m : Nat) (vs : List Value) (h : k + vs.length ≤ m) (hm : m ≤ l.length) :
    (l.take k ++ vs ++ l.drop (k + vs.length)).take m = (l.take m).take k ++ vs ++ (l.take m).drop (k + vs.length) := by
  have hk : (l.take k).length = k := by rw [List.length_take]; omega
  rw [List.append_assoc, List.take_append, hk, List.take_append, List.take_of_length_le (by rw [hk]; omega), List.take_of_length_le (i := m - k) (by omega), List.take_take, Nat.min_eq_left (by omega), List.drop_take, List.append_assoc]
  congr 3
  omega
/-! ### A slice of the call's own -/
def Own (w : World) (base : Nat) (e : TypeId) (size : Nat) (a : Option Addr) (n cap : Nat) (xs : List Value) : Prop := w.ownsRow base e size (.slice a n cap) n xs
section
variable {w w' : World} {base : Nat} {e : TypeId} {size : Nat} {a : Option Addr} {n cap : Nat} {xs : List Value}
theorem Own.nil (w : World) (base : Nat) (e : TypeId) (size : Nat) : Own w base e size none 0 0 [] := World.ownsRow_nil w base e size
theorem Own.length (h : Own w base e size a n cap xs) : xs.length = n * size := h.1
theorem Own.form (h : Own w base e size a n cap xs) : (a = none ∧ n = 0 ∧ cap = 0) ∨ ∃ g, a = some ⟨g, 0, none⟩ ∧ base ≤ g ∧ g < w.heap.size := by
  rcases h.2 with ⟨h1, h2⟩ | ⟨g, cap', cur, h1, h2, h3, _⟩
  · simp only [Value.slice.injEq] at h1
    exact .inl ⟨h1.1, h2, h1.2.2⟩
  · simp only [Value.slice.injEq] at h1
    exact .inr ⟨g, h1.1, h2, (Array.getElem?_eq_some_iff.1 h3).1⟩
theorem Own.base_le (h : Own w base e size a n cap xs) : ∀ k, Ow a k → base ≤ k := by
  rintro k ⟨p, hp, rfl⟩
  rcases h.form with ⟨h1, _⟩ | ⟨g, h1, h2, _⟩
  · rw [h1] at hp; cases hp
  · rw [h1] at hp; cases hp; exact h2
theorem Own.lt (h : Own w base e size a n cap xs) : ∀ k, Ow a k → k < w.heap.size := by
  rintro k ⟨p, hp, rfl⟩
  rcases h.form with ⟨h1, _⟩ | ⟨g, h1, _, h2⟩
  · rw [h1] at hp; cases hp
  · rw [h1] at hp; cases hp; exact h2
theorem Own.chg {X : Nat → Prop} (h : Own w base e size a n cap xs) (hc : Chg X w w') (hn : ∀ k, Ow a k → ¬ X k) : Own w' base e size a n cap xs := by
  refine ⟨h.1, ?_⟩
  rcases h.2 with hl | ⟨g, cap', cur, h1, h2, h3, rest⟩
  · exact .inl hl
  · refine .inr ⟨g, cap', cur, h1, h2, ?_, rest⟩
    simp only [Value.slice.injEq] at h1
    exact (hc.block g (Array.getElem?_eq_some_iff.1 h3).1 (hn g ⟨_, h1.1, rfl⟩)).trans h3
theorem Own.no (h : Own w base e size a n cap xs) (hc : Chg No w w') : Own w' base e size a n cap xs := h.chg hc fun _ _ => id
theorem Own.drew (h : Own w base e size a n cap xs) : Own w.drew base e size a n cap xs := h
theorem Own.mono {base' : Nat} (h : Own w base e size a n cap xs) (hb : base' ≤ base) : Own w base' e size a n cap xs := by
  refine ⟨h.1, ?_⟩
  rcases h.2 with hl | ⟨g, cap', cur, h1, h2, rest⟩
  · exact .inl hl
  · exact .inr ⟨g, cap', cur, h1, by omega, rest⟩
theorem Own.row (h : Own w base e size a n cap xs) : Row w a (n * size) (fun j => xs.getD j undef) := by
  rcases h.2 with ⟨_, h2⟩ | ⟨g, cap', cur, h1, h2, h3, h4, h5, h6, h7⟩
  · exact .inl (by simp [h2])
  · simp only [Value.slice.injEq] at h1
    refine .inr ⟨g, 0, h1.1, fun j hj => ?_⟩
    rw [Nat.zero_add, cell_of_row w g j cur e (0, 0) h3]
    have hl : j < xs.length := by rw [h.1]; exact hj
    have : cur.toList[j]? = xs[j]? := by rw [← h7, List.getElem?_take, if_pos hj]
    have e : xs.getD j undef = xs[j] := by simp [hl]
    show cur[j]? = some (xs.getD j undef)
    rw [e]
    simpa [hl] using this
theorem Own.rowE {α : Type} {L : List α} {c : α → List Value} (d : α) (h : Own w base e size a n cap (L.flatMap c)) (hl : L.length = n) (hc : ∀ x, (c x).length = size) : RowE w a n size (fun i => c (L.getD i d)) := by
  rcases h.row with h0 | ⟨b, off, ha, hr⟩
  · rcases Nat.mul_eq_zero.1 h0 with h0 | h0
    · exact .inl h0
    · by_cases hn : n = 0
      · exact .inl hn
      · rcases h.form with ⟨_, h1, _⟩ | ⟨g, h1, _⟩
        · exact absurd h1 hn
        · refine .inr ⟨g, 0, h1, fun i hi j v hv => ?_⟩
          have := (List.getElem?_eq_some_iff.1 hv).1
          rw [hc] at this; omega
  · refine .inr ⟨b, off, ha, fun i hi j v hv => ?_⟩
    have hj : j < size := by have := (List.getElem?_eq_some_iff.1 hv).1; rwa [hc] at this
    have hlt : i * size + j < n * size := by
      have h2 : (i + 1) * size ≤ n * size := Nat.mul_le_mul_right size (by omega)
      rw [Nat.add_mul] at h2; omega
    have h1 := hr (i * size + j) hlt
    rw [Nat.add_assoc]
    rw [h1]
    have h3 := flat_get c size hc L d i j v (by omega) hv
    simp [h3]
theorem Own.snoc {α : Type} {c : α → List Value} {L : List α} {news : List Value} (x : α) (hx : c x = news) (h : Own w base e size a n cap (L.flatMap c ++ news)) : Own w base e size a n cap ((L ++ [x]).flatMap c) := by
  rw [List.flatMap_append, List.flatMap_singleton, hx]; exact h
theorem Blk.rowE {α : Type} {c : α → List Value} (d : α) {L : List α} {b : Nat} {t : TypeId} {cs : List Value} (h : Blk w b t cs) (hc : ∀ x, (c x).length = size) (hcs : L.flatMap c = cs) :
    RowE w (some ⟨b, 0, none⟩) L.length size (fun i => c (L.getD i d)) := by
  refine .inr ⟨b, 0, rfl, fun i hi j v hv => ?_⟩
  have := flat_get c size hc L d i j v hi hv
  rw [hcs] at this
  rw [Nat.zero_add]
  exact h.cell this
theorem Own.some_ (h : Own w base e size a n cap xs) (hn : 0 < n) : ∃ g, a = some ⟨g, 0, none⟩ ∧ base ≤ g ∧ g < w.heap.size := by
  rcases h.form with ⟨_, h, _⟩ | h
  · omega
  · exact h
theorem Own.ne_ty {b : Nat} {t : TypeId} {cs : List Value} (h : Own w base e size a n cap xs) (hb : Blk w b t cs) (hne : e ≠ t) : ∀ k, Ow a k → k ≠ b := by
  rintro k ⟨p, hp, rfl⟩ hk
  rcases h.2 with ⟨h1, _⟩ | ⟨g, cap', cur, h1, h2, h3, _⟩
  · simp only [Value.slice.injEq] at h1; rw [h1.1] at hp; cases hp
  · simp only [Value.slice.injEq] at h1
    rw [h1.1] at hp; cases hp
    simp only at hk
    unfold Blk at hb
    rw [hk, hb] at h3
    injection h3 with h3
    injection h3 with _ h4
    exact hne h4.symm
theorem Own.of_blk {b : Nat} {cs : List Value} (h : Blk w b e cs) (hb : base ≤ b) (hn : n ≤ cap) (hm : cap ≤ maxLen) (hl : cs.length = cap * size) : Own w base e size (some ⟨b, 0, none⟩) n cap (cs.take (n * size)) := by
  have := Nat.mul_le_mul_right size hn
  refine ⟨by rw [List.length_take, hl]; omega, .inr ⟨b, cap, cs.toArray, rfl, hb, h, hn, hm, by simpa using hl, by simp⟩⟩
theorem Own.of_blkL {α : Type} {c : α → List Value} {L : List α} {b : Nat} {cs : List Value} (h : Blk w b e cs) (hb : base ≤ b) (hn : L.length = n) (hm : n ≤ maxLen) (hc : ∀ x, (c x).length = size) (hcs : L.flatMap c = cs) :
    Own w base e size (some ⟨b, 0, none⟩) n n (L.flatMap c) := by
  have hl := flat_len c size hc L
  have := Own.of_blk (n := n) (cap := n) (size := size) h hb (Nat.le_refl _) hm (by rw [← hcs, hl, hn])
  rwa [List.take_of_length_le (by rw [← hcs, hl, hn]; exact Nat.le_refl _), ← hcs] at this
end
section
variable {P : Program} {n : Nat} {F : Fr} {w : World} {K : Fr → World → Prop}
theorem Chg.grown {w' : World} {a : Option Addr} {m c : Nat} (h : w.grownBy w' (Value.slice a m c).ownBlock) : Chg (Ow a) w w' :=
  ⟨h.os, h.tape, h.output, h.size, fun k hk hn => h.block k hk (fun e => hn (by
    cases a with
    | none => simp [Value.ownBlock] at e
    | some p => simp [Value.ownBlock] at e; exact ⟨p, rfl, e⟩))⟩
theorem Chg.ow_none {w' : World} (h : Chg (Ow none) w w') : Chg No w w' := h.mono fun _ _ ⟨_, hp, _⟩ => by cases hp
theorem one_cells {vs : List Value} (h : vs.all Value.oneCell' = true) : ∀ v ∈ vs, v.oneCell' = true := List.all_eq_true.1 h
def CellsAt (w : World) (b : Nat) : Nat → List Value → Prop
  | _, [] => True
  | off, v :: vs => w.cell? ⟨b, off, none⟩ = some v ∧ CellsAt w b (off + 1) vs
theorem cl0 {b off : Nat} : CellsAt w b off [] := trivial
theorem cl {b off : Nat} {v : Value} {vs : List Value} (h : w.cell? ⟨b, off, none⟩ = some v) (h2 : CellsAt w b (off + 1) vs) : CellsAt w b off (v :: vs) := ⟨h, h2⟩
theorem cells {b : Nat} : ∀ {off : Nat} {l : List Value}, CellsAt w b off l → ∀ j v, l[j]? = some v → w.cell? ⟨b, off + j, none⟩ = some v
  | _, [], _, j, v, h => by simp at h
  | off, u :: l, ⟨h1, _⟩, 0, v, h => by simp at h; subst h; exact h1
  | off, u :: l, ⟨_, h2⟩, j + 1, v, h => by
    have := cells h2 j v (by simpa using h)
    rwa [show off + 1 + j = off + (j + 1) by omega] at this
def bsCells (P : Program) (e len : Nat) (pv : List (Nat × Value)) : Option (Array Value) :=
  match P.info? e with
  | some ie => match ie.zero with
    | some z => if len * ie.size > 2 ^ 24 ∨ len * ie.size = 0 then none else Instr.fill (fun i => some (i * ie.size, ie.size)) ((List.range (len * ie.size)).map (fun i => z.cells[i % z.cells.size]!)).toArray pv
    | none => none
  | none => none
theorem bs_run (w : World) (t e len : Nat) (pv : List (Nat × Value)) (cs : List Value) (hu : P.underlying t = some (.slice e)) (h : bsCells P e len pv = some cs.toArray) :
    (Instr.buildSlice t len pv.toArray).run P w = .ok (.slice (some ⟨w.heap.size, 0, none⟩) len len) (w.alloc (.cells cs.toArray e)) := by
  unfold bsCells at h
  cases hi : P.info? e with
  | none => simp [hi] at h
  | some ie =>
    cases hz : ie.zero with
    | none => simp [hi, hz] at h
    | some z =>
      simp only [hi, hz] at h
      split at h
      · cases h
      · rename_i hs
        refine run_buildSlice w t e len _ _ ie z hu hi hz (by omega) (by omega) ?_
        rw [← h]
        congr 1
        apply Array.ext (by simp)
        intro i h1 h2
        simp
theorem bs_run0 (w : World) (t e len : Nat) (pv : List (Nat × Value)) (cs : List Value) (hu : P.underlying t = some (.slice e)) (h : ((P.info? e).isSome && len == 0 && pv.isEmpty && cs.isEmpty) = true) :
    (Instr.buildSlice t len pv.toArray).run P w = .ok (.slice (some ⟨w.heap.size, 0, none⟩) len len) (w.alloc (.cells cs.toArray e)) := by
  simp only [Bool.and_eq_true, beq_iff_eq, List.isEmpty_iff] at h
  obtain ⟨⟨⟨hi, rfl⟩, rfl⟩, rfl⟩ := h
  obtain ⟨i, hi⟩ := Option.isSome_iff_exists.1 hi
  simp [Instr.buildSlice, run_underlying hu, sizeOf, typeInfo, hi, Instr.fill, newRow, Array.range_zero']
theorem KW.drawn {ρ : Option Nat} {id : Nat} {l : List Oper} {Q : Exit → Fr → World → Prop} (S : World → Prop) (hm : P.follows .mixedOrders = true)
    (h : ∀ w1, Chg No w w1 → w1.heap.size = w.heap.size → DW P n l.toArray S l.length (Array.replicate l.length false) Q F w1) (hd : ndf l = true := by rfl) : KW ρ P n (.region id l.toArray true) Q F w :=
  KW.drawnA _ hm (h w.drew (Chg.refl w).drew rfl) hd
theorem OW.new {o : Oper} {dd : Option Nat} {t : TypeId} (hd : o.dst = dd) (v : Nat → Value) (cs : List Value) (hr : (execOp (ev n F) o).run P w = .ok (.value (v w.heap.size)) (w.alloc (.cells cs.toArray t)))
    (h : ∀ w' r, r = w.heap.size → Chg No w w' → w'.heap.size = r + 1 → Blk w' r t cs → K (updo F dd (v r)) w') : OW P n F o w K := fun hok Q => by
  subst hd
  unfold Oper.wp
  rw [eval_fr, hr]
  exact ⟨_, put_fr n F o.dst _ hok, h _ _ rfl (Chg.alloc w _) (by simp) (Blk.new w t cs)⟩
theorem OW.bs {o : Oper} {dd : Option Nat} {t e : TypeId} {len : Nat} {l : List (Nat × Operand)} (hd : o.dst = dd) (pv : List (Nat × Value)) (cs : List Value) (ho : o.op = .buildSlice t len l.toArray) (hl : (l.map fun x => (x.1, ev n F x.2)) = pv)
    (hr : ∀ w, (Instr.buildSlice t len pv.toArray).run P w = .ok (.slice (some ⟨w.heap.size, 0, none⟩) len len) (w.alloc (.cells cs.toArray e)))
    (h : ∀ w' r, r = w.heap.size → Chg No w w' → w'.heap.size = r + 1 → Blk w' r e cs → K (updo F dd (.slice (some ⟨r, 0, none⟩) len len)) w') : OW P n F o w K := fun hok Q => by
  subst hd
  unfold Oper.wp
  rw [eval_fr]
  have : (execOp (ev n F) o).run P w = .ok (.value (.slice (some ⟨w.heap.size, 0, none⟩) len len)) (w.alloc (.cells cs.toArray e)) := by
    unfold execOp
    rw [ho]
    simp only [List.map_toArray, Sem.run_bind]
    rw [show (List.map (fun x : Nat × Operand => match x with | (i, x) => (i, ev n F x)) l) = pv from hl, hr w]
    rfl
  rw [this]
  exact ⟨_, put_fr n F o.dst _ hok, h _ _ rfl (Chg.alloc w _) (by simp) (Blk.new w e cs)⟩
theorem QR.bd {o : Oper} {t : TypeId} {l : List (Nat × Operand)} (pv : List (Nat × Value)) (cs : List Value) (ho : o.op = .build t l.toArray) (hl : (l.map fun x => (x.1, ev n F x.2)) = pv)
    (hr : P.built t pv = some cs.toArray) : QR P n F o (.agg cs.toArray) w := by
  unfold QR execOp
  rw [ho]
  simp only [List.map_toArray, Sem.run_bind]
  rw [show (List.map (fun x : Nat × Operand => match x with | (i, x) => (i, ev n F x)) l) = pv from hl, run_build w t pv.toArray cs.toArray (by simpa using hr)]
  rfl
theorem OW.app {o : Oper} {dd : Option Nat} {s x : Operand} {t e : TypeId} {base : Nat} {a : Option Addr} {m cap : Nat} {xs : List Value} {b off k c : Nat} {z : Value} {size bytes : Nat} (hd : o.dst = dd) (news : List Value)
    (ho : o.op = .call { callee := .builtin .append, args := #[s, x], argTypes := #[t, t] }) (hs : ev n F s = .slice a m cap) (hown : Own w base e size a m cap xs) (hx : ev n F x = .slice (some ⟨b, off, none⟩) k c)
    (ht : P.underlying t = some (.slice e)) (hi : (P.info? e).map (fun i => (i.zero, i.size, i.bytes)) = some (some z, size, bytes)) (hz : z.cells.size = size) (hpos : 0 < size)
    (hl : news.length = k * size) (hn : ∀ j u, news[j]? = some u → w.cell? ⟨b, off + j, none⟩ = some u) (h1 : ∀ u ∈ news, u.oneCell' = true)
    (hm : m + k ≤ maxLen) (hb : (m + k) * bytes ≤ 140737488355328) (hbase : base ≤ w.heap.size)
    (h : ∀ a' cap' w', Chg (Ow a) w w' → Own w' base e size a' (m + k) cap' (xs ++ news) → K (updo F dd (.slice a' (m + k) cap')) w') : OW P n F o w K := fun hok Q => by
  subst hd
  obtain ⟨i, hi0, hz0, hz1, hz2⟩ := info_parts hi
  refine wp_append_own w s x t ho base e i z size bytes ht hi0 hz0 hz1 hz2 hz hpos (.slice a m cap) m xs (by rw [eval_fr]; exact hs) hown ⟨b, off, none⟩ k c news (by rw [eval_fr]; exact hx) hl
    (fun j u hj => by rw [Addr.add_off]; exact hn j u hj) h1 hm hb hbase ?_
  intro v' w' h2 h3 _
  have hf : ∃ a' cap', v' = .slice a' (m + k) cap' := by
    rcases h2.2 with ⟨rfl, h⟩ | ⟨g, cap', cur, rfl, _⟩
    · exact ⟨none, 0, by rw [h]⟩
    · exact ⟨_, _, rfl⟩
  obtain ⟨a', cap', rfl⟩ := hf
  exact ⟨_, put_fr n F o.dst _ hok, h a' cap' w' (Chg.grown h3) h2⟩
theorem OW.st {o : Oper} {t T : TypeId} {x y : Operand} {b off : Nat} {cs : List Value} (vs cs' : List Value) (ho : o.op = .store t x y) (hx : ev n F x = .pointer (some ⟨b, off, none⟩)) (hy : (ev n F y).cells = vs.toArray)
    (hs : (P.info? t).map (·.size) = some vs.length) (hb : Blk w b T cs) (hfit' : Nat.ble (off + vs.length) cs.length = true) (h1 : ∀ v ∈ vs, v.oneCell' = true) (hd : o.dst = none)
    (hc : cs.take off ++ vs ++ cs.drop (off + vs.length) = cs')
    (h : ∀ w', Chg (Is b) w w' → w'.heap.size = w.heap.size → Blk w' b T cs' → K F w') : OW P n F o w K := fun hok Q => by
  unfold Oper.wp
  rw [eval_fr]
  have hfit : off + vs.length ≤ cs.length := Nat.le_of_ble_eq_true hfit'
  obtain ⟨i, hi, hsz⟩ := Option.map_eq_some_iff.1 hs
  have hst := run_storeCells_at P b off T vs 0 cs.toArray w hb (by simpa using hfit) h1
  have : (execOp (ev n F) o).run P w = .ok .skip (w.setRow b cs'.toArray) := by
    unfold execOp
    rw [ho]
    simp only [hx, Instr.storeAt, Instr.sureAddr, storeVar, hy, sizeOf, typeInfo]
    simp at hst
    simp [hi, hsz, hst, ← hc]
  rw [this]
  refine ⟨F, ?_, h _ ⟨rfl, rfl, rfl, by simp, fun k hk hn => setRow_other w b k _ hn⟩ (by simp) (setRow_heap w b _ _ T (0, 0) hb)⟩
  rw [hd]; rfl
theorem OW.appR {o : Oper} {dd : Option Nat} {s x : Operand} {t e : TypeId} {base : Nat} {a a2 : Option Addr} {m cap : Nat} {k c2 : Nat} {z : Value} {size bytes : Nat} {α : Type} {c : α → List Value} {L L2 : List α} (hd : o.dst = dd) (d : α)
    (ho : o.op = .call { callee := .builtin .append, args := #[s, x], argTypes := #[t, t] }) (hs : ev n F s = .slice a m cap) (hown : Own w base e size a m cap (L.flatMap c)) (hx : ev n F x = .slice a2 k c2)
    (ht : P.underlying t = some (.slice e)) (hi : (P.info? e).map (fun i => (i.zero, i.size, i.bytes)) = some (some z, size, bytes)) (hz : z.cells.size = size) (hpos : 0 < size)
    (hl2 : L2.length = k) (hrow : RowE w a2 k size (fun i => c (L2.getD i d))) (hc : ∀ x, (c x).length = size) (h1 : ∀ x, ∀ u ∈ c x, u.oneCell' = true)
    (hm : m + k ≤ maxLen) (hb : (m + k) * bytes ≤ 140737488355328) (hbase : base ≤ w.heap.size)
    (h : ∀ a' cap' w', Chg (Ow a) w w' → Own w' base e size a' (m + k) cap' ((L ++ L2).flatMap c) → (a' = none → a = none) → K (updo F dd (.slice a' (m + k) cap')) w') : OW P n F o w K := fun hok Q => by
  subst hd
  obtain ⟨i, hi0, hz0, hz1, hz2⟩ := info_parts hi
  by_cases hk : k = 0
  · subst hk
    have hL2 : L2 = [] := List.eq_nil_of_length_eq_zero hl2
    subst hL2
    unfold Oper.wp
    rw [eval_fr]
    have hrun : (execOp (ev n F) o).run P w = .ok (.value (.slice a m cap)) w := by
      have hle : m ≤ cap := by
        rcases hown.2 with ⟨h1, h2⟩ | ⟨g, cap', cur, h1, _, _, h2, _⟩
        · simp only [Value.slice.injEq] at h1; omega
        · simp only [Value.slice.injEq] at h1; omega
      unfold execOp
      rw [ho]
      cases a <;> cases a2 <;> simp [resolve, invoke, builtin, Builtin.append_, hs, hx, run_underlying ht, sizeOf, typeInfo, hi0, Builtin.lenOf, hle, Builtin.firstCells, loadCells, loadCellsFrom, storeCells]
    rw [hrun]
    refine ⟨_, put_fr n F o.dst _ hok, h a cap w ((Chg.refl w).mono fun _ _ h => h.elim) (by simpa using hown) id⟩
  · obtain ⟨b, off, rfl, hcell⟩ := hrow.at_ (by omega)
    have hcell2 : ∀ j u, (L2.flatMap c)[j]? = some u → w.cell? ⟨b, off + j, none⟩ = some u := fun j u hj => by
      have hjl : j < (L2.flatMap c).length := (List.getElem?_eq_some_iff.1 hj).1
      rw [flat_len c size hc, hl2] at hjl
      have hdiv : j / size < k := Nat.div_lt_of_lt_mul (by rw [Nat.mul_comm]; exact hjl)
      have hmod : j % size < size := Nat.mod_lt _ hpos
      have hjj : j / size * size + j % size = j := by rw [Nat.mul_comm]; exact Nat.div_add_mod j size
      have hget : (c (L2.getD (j / size) d))[j % size]? = some ((c (L2.getD (j / size) d))[j % size]'(by rw [hc]; exact hmod)) := List.getElem?_eq_getElem _
      have hfl := flat_get c size hc L2 d (j / size) (j % size) _ (by omega) hget
      rw [hjj, hj] at hfl
      have := hcell (j / size) hdiv (j % size) _ hget
      rw [Nat.add_assoc, hjj] at this
      rw [this]; exact hfl.symm
    refine OW.app rfl (L2.flatMap c) ho hs hown hx ht hi hz hpos (by rw [flat_len c size hc, hl2]) hcell2 (fun u hu => by obtain ⟨x, _, hx⟩ := List.mem_flatMap.1 hu; exact h1 x u hx) hm hb hbase ?_ hok Q
    intro a' cap' w' h2 h3
    refine h a' cap' w' h2 (by rw [List.flatMap_append]; exact h3) (fun hn => ?_)
    obtain ⟨g, hg, _⟩ := h3.some_ (by omega)
    rw [hn] at hg; cases hg
theorem QR.eqNil {o : Oper} {t e : TypeId} {a : Option Addr} {m c : Nat} {x y : Operand} {y2 : TypeId} (ho : o.op = .binOp .eql t x y y2) (hx : ev n F x = .slice a m c) (hy : ev n F y = .slice none 0 0) (ht : P.underlying t = some (.slice e)) : QR P n F o (.bool a.isNone) w := by
  unfold QR execOp
  rw [ho]
  have h1 : (eqGuard .eql t x y (.slice a m c) (.slice none 0 0)).run P w = .ok () w := rfl
  simp only [hx, hy, Sem.run_bind, h1, Result.andThen_ok, Lib.run_eql_slice_nil w t e a m c 0 0 ht]
  rfl
theorem QR.eqS {o : Oper} {t y2 : TypeId} {x y : Operand} {xs ys : Array Value} {b : Bool} (hm : P.eqGuardType P.depth t = false) (ho : o.op = .binOp .eql t x y y2) (hx : ev n F x = .agg xs) (hy : ev n F y = .agg ys)
    (h : ∀ w, (Op.equal t (.agg xs) (.agg ys)).run P w = .ok b w) : QR P n F o (.bool b) w := by
  unfold QR execOp
  rw [ho]
  simp only [hx, hy, Sem.run_bind, run_eqGuard_agg w .eql t x y xs ys hm, Result.andThen_ok, binOp, h w]
  rfl
theorem QR.neS {o : Oper} {t y2 : TypeId} {x y : Operand} {xs ys : Array Value} {b : Bool} (hm : P.eqGuardType P.depth t = false) (ho : o.op = .binOp .neq t x y y2) (hx : ev n F x = .agg xs) (hy : ev n F y = .agg ys)
    (h : ∀ w, (Op.equal t (.agg xs) (.agg ys)).run P w = .ok b w) : QR P n F o (.bool !b) w := by
  unfold QR execOp
  rw [ho]
  simp only [hx, hy, Sem.run_bind, run_eqGuard_agg w .neq t x y xs ys hm, Result.andThen_ok, binOp, h w]
  rfl
/-! ### Calls -/
def callable (P : Program) (f : FuncId) : Bool :=
  match P.funcs[f]? with
  | some fn => !(fn.name == "runtime.NumGoroutine") && fn.body.isSome
  | none => false
theorem callFunc_run {f : FuncId} (hf : callable P f = true) (args : Array Value) : (callFunc f args).run P w = .ok (.enter f args) w := by
  unfold callable at hf
  unfold callFunc
  cases hq : P.funcs[f]? with
  | none => simp [hq] at hf
  | some fn =>
    simp [hq] at hf
    cases hbd : fn.body with
    | none => simp [hbd] at hf
    | some c => simp [hq, hf.1, hbd]
theorem OW.enter {o : Oper} {dd : Option Nat} {f : FuncId} {args : Array Value} {R : Value → World → Prop} (hd : o.dst = dd) (hr : (execOp (ev n F) o).run P w = .ok (.enter f args) w) (hk : KC P f args w R)
    (h : ∀ v w', R v w' → K (updo F dd v) w') : OW P n F o w K := fun hok Q => by
  subst hd
  unfold Oper.wp
  rw [eval_fr, hr]
  refine Calls.mono hk ?_
  rintro e w' ⟨v, rfl, hR⟩
  exact ⟨_, put_fr n F o.dst v hok, h v w' hR⟩
theorem OW.call {o : Oper} {dd : Option Nat} {f : FuncId} {l : List Operand} {ats : Array TypeId} {R : Value → World → Prop} (hd : o.dst = dd) (vs : List Value) (ho : o.op = .call { callee := .value (.func f), args := l.toArray, argTypes := ats })
    (hv : l.map (ev n F) = vs) (hf : callable P f = true) (hk : KC P f vs.toArray w R) (h : ∀ v w', R v w' → K (updo F dd v) w') : OW P n F o w K :=
  OW.enter hd (by
    unfold execOp
    rw [ho]
    simp [resolve, Deferred.ofValue, invoke, ev, hv, callFunc_run hf]) hk h
theorem OW.callv {o : Oper} {dd : Option Nat} {f : FuncId} {x : Operand} {l : List Operand} {ats : Array TypeId} {R : Value → World → Prop} {v1 v2 : List Value} (hd : o.dst = dd) (vs : List Value) (ho : o.op = .call { callee := .value x, args := l.toArray, argTypes := ats })
    (hx : ev n F x = .func (.func f) v1.toArray v2.toArray) (hv : v1 ++ l.map (ev n F) ++ v2 = vs) (hf : callable P f = true) (hk : KC P f vs.toArray w R) (h : ∀ v w', R v w' → K (updo F dd v) w') : OW P n F o w K :=
  OW.enter hd (by
    unfold execOp
    rw [ho]
    subst hv
    simp [resolve, Deferred.ofValue, invoke, hx, callFunc_run hf]) hk h
/-! ### A function's results -/
theorem res1 {fn : Func} {t : Tmp} (h : fn.results = #[.tmp t]) {v : Value} (hv : ev n F (.tmp t) = v) : (results fn (arr n F)).run P w = .ok v w := by
  rw [results_tmp h, arr_getD, ← hv]; rfl
theorem res0 {fn : Func} (h : fn.results = #[]) : (results fn (arr n F)).run P w = .ok (.tuple #[]) w := results_none h _ _ _
theorem res2 {fn : Func} {t u : Tmp} (h : fn.results = #[.tmp t, .tmp u]) {v1 v2 : Value} (hv : ev n F (.tmp t) = v1) (hu : ev n F (.tmp u) = v2) : (results fn (arr n F)).run P w = .ok (.tuple #[v1, v2]) w := by
  rw [results_tmp2 h, arr_getD, arr_getD, ← hv, ← hu]; rfl
end
end K
end Go.Proofs.Ytnehocjmgnhhhaa
