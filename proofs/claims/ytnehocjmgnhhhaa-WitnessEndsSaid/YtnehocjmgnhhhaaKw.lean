import Derived.Test.YtnehocjmgnhhhaaFlist
import Derived.Laws.CopyRow
import Derived.Laws.Append
import Derived.Laws.AppendOwn
/-
  Rows of the call's own, written in the midst: copy, clear, append with room and without. For any size of an element.
-/
namespace Go.Proofs.Ytnehocjmgnhhhaa
open Go.RowKit
set_option linter.unusedVariables false
namespace K
variable {P : Program} {n : Nat} {F : Fr} {w : World}
section
variable {w' : World} {base : Nat} {e : TypeId} {size m cap : Nat} {a : Option Addr} {xs : List Value}
theorem Own.le_cap (h : Own w base e size a m cap xs) : m ≤ cap ∧ cap ≤ maxLen := by
  rcases h.2 with ⟨h1, h2⟩ | ⟨g, cap', cur, h1, h2, h3, h4, h5, _⟩
  · simp only [Value.slice.injEq] at h1; unfold maxLen; omega
  · simp only [Value.slice.injEq] at h1; omega
theorem Own.cur {g : Nat} (h : Own w base e size (some ⟨g, 0, none⟩) m cap xs) : ∃ cur : Array Value, base ≤ g ∧ w.heap[g]? = some (.cells cur e (0, 0)) ∧ m ≤ cap ∧ cap ≤ maxLen ∧ cur.size = cap * size ∧ cur.toList.take (m * size) = xs := by
  rcases h.2 with ⟨h1, _⟩ | ⟨g', cap', cur, h1, h2, h3, h4, h5, h6, h7⟩
  · cases h1
  · simp only [Value.slice.injEq, Option.some.injEq, Addr.mk.injEq, and_true] at h1
    obtain ⟨rfl, -, rfl⟩ := h1
    exact ⟨cur, h2, h3, h4, h5, h6, h7⟩
theorem Own.of_cur {g : Nat} {cur : Array Value} (hg : w.heap[g]? = some (.cells cur e (0, 0))) (hb : base ≤ g) (hm : m ≤ cap) (hc : cap ≤ maxLen) (hs : cur.size = cap * size) (hx : cur.toList.take (m * size) = xs) :
    Own w base e size (some ⟨g, 0, none⟩) m cap xs :=
  ⟨by rw [← hx, List.length_take, Array.length_toList, hs]; exact Nat.min_eq_left (Nat.mul_le_mul_right _ hm), .inr ⟨g, cap, cur, rfl, hb, hg, hm, hc, hs, hx⟩⟩
theorem setRow_chg (w : World) (g : Nat) (cs : Array Value) : Chg (Is g) w (w.setRow g cs) :=
  ⟨rfl, rfl, rfl, by simp [World.setRow], fun k _ hn => setRow_other w g k cs (fun h => hn h)⟩
theorem setRow_size (w : World) (g : Nat) (cs : Array Value) : (w.setRow g cs).heap.size = w.heap.size := by simp [World.setRow]
theorem Own.take {α : Type} {c : α → List Value} {L : List α} (h : Own w base e size a m cap (L.flatMap c)) (hl : L.length = m) (hc : ∀ x, (c x).length = size) (i : Nat) (hi : i ≤ m) (ha : a = none → i = 0) :
    Own w base e size a i cap ((L.take i).flatMap c) := by
  have hf : ∀ (L : List α) (i : Nat), (L.flatMap c).take (i * size) = (L.take i).flatMap c := by
    intro L
    induction L with
    | nil => intro i; simp
    | cons x L ih =>
      intro i
      cases i with
      | zero => simp
      | succ i =>
        rw [List.flatMap_cons, List.take_succ_cons, List.flatMap_cons, List.take_append, hc x, show (i + 1) * size - size = i * size by rw [Nat.succ_mul]; omega, ih, List.take_of_length_le (by rw [hc x, Nat.succ_mul]; omega)]
  rcases h.form with ⟨rfl, hm, hc0⟩ | ⟨g, rfl, _, _⟩
  · obtain rfl := ha rfl
    subst hc0
    simpa using Own.nil w base e size
  · obtain ⟨cur, h2, h3, h4, h5, h6, h7⟩ := h.cur
    refine Own.of_cur h3 h2 (by omega) h5 h6 ?_
    rw [← hf L i, ← h7, List.take_take, Nat.min_eq_left (Nat.mul_le_mul_right _ hi)]
end
theorem fl_len {α : Type} {c : α → List Value} {size : Nat} (hc : ∀ x, (c x).length = size) : ∀ L : List α, (L.flatMap c).length = L.length * size
  | [] => by simp
  | x :: L => by rw [List.flatMap_cons, List.length_append, hc x, fl_len hc L, List.length_cons, Nat.succ_mul]; omega
theorem fl_take {α : Type} {c : α → List Value} {size : Nat} (hc : ∀ x, (c x).length = size) : ∀ (L : List α) (i : Nat), (L.flatMap c).take (i * size) = (L.take i).flatMap c
  | [], i => by simp
  | x :: L, 0 => by simp
  | x :: L, i + 1 => by
    rw [List.flatMap_cons, List.take_succ_cons, List.flatMap_cons, List.take_append, hc x, show (i + 1) * size - size = i * size by rw [Nat.succ_mul]; omega, fl_take hc L i, List.take_of_length_le (by rw [hc x, Nat.succ_mul]; omega)]
theorem fl_drop {α : Type} {c : α → List Value} {size : Nat} (hc : ∀ x, (c x).length = size) : ∀ (L : List α) (i : Nat), (L.flatMap c).drop (i * size) = (L.drop i).flatMap c
  | [], i => by simp
  | x :: L, 0 => by simp
  | x :: L, i + 1 => by
    rw [List.flatMap_cons, List.drop_succ_cons, List.drop_append, hc x, show (i + 1) * size - size = i * size by rw [Nat.succ_mul]; omega, fl_drop hc L i, List.drop_of_length_le (by rw [hc x, Nat.succ_mul]; omega), List.nil_append]
theorem fl_get {α : Type} {c : α → List Value} {size : Nat} (hc : ∀ x, (c x).length = size) (L : List α) (d : α) {i r : Nat} (hi : i < L.length) (hr : r < size) : (L.flatMap c)[i * size + r]? = (c (L.getD i d))[r]? := by
  rw [← List.getElem?_drop, fl_drop hc, List.drop_eq_getElem_cons hi, List.flatMap_cons, List.getElem?_append_left (by rw [hc]; exact hr)]
  congr 2
  simp [hi]
theorem RowE.flat {α : Type} {c : α → List Value} {size sl m b off : Nat} {L2 : List α} {d : α} (h : RowE w (some ⟨b, off, none⟩) sl size (fun j => c (L2.getD j d))) (hc : ∀ x, (c x).length = size) (hl : L2.length = sl) (hm : m ≤ sl) :
    ∀ j v, ((L2.take m).flatMap c)[j]? = some v → w.cell? ((⟨b, off, none⟩ : Addr).add j) = some v := by
  intro j v hj
  have hcs : ((L2.take m).flatMap c).length = m * size := by rw [fl_len hc, List.length_take, Nat.min_eq_left (by omega)]
  have hjl : j < m * size := by rw [← hcs]; exact (List.getElem?_eq_some_iff.1 hj).1
  have hsz : 0 < size := by
    rcases Nat.eq_zero_or_pos size with h8 | h8
    · subst h8; simp at hjl
    · exact h8
  have hi : j / size < m := Nat.div_lt_of_lt_mul (by rw [Nat.mul_comm]; exact hjl)
  have hjr : j / size * size + j % size = j := by rw [Nat.mul_comm]; exact Nat.div_add_mod j size
  rw [Addr.add_off, ← hjr, ← Nat.add_assoc]
  refine h.ld (j / size) (by omega) (j % size) v ?_
  rw [← hj, ← fl_take hc, List.getElem?_take_of_lt hjl]
  have := fl_get hc L2 d (i := j / size) (r := j % size) (by omega) (Nat.mod_lt _ hsz)
  rw [hjr] at this
  exact this.symm
theorem OW.cp {o : Oper} {dd : Option Nat} {dT sT e : TypeId} {d s : Operand} {g dl dc sl sc base size N cap : Nat} {dp sp : Option Addr} {α : Type} {c : α → List Value} {L L2 : List α} {K : Fr → World → Prop} (i m : Nat) (dflt : α)
    (hd : o.dst = dd) (ho : o.op = .call { callee := .builtin .copy, args := #[d, s], argTypes := #[dT, sT] }) (hx : ev n F d = .slice dp dl dc) (hy : ev n F s = .slice sp sl sc) (hdp : 0 < m → dp = some ⟨g, i * size, none⟩)
    (ht : P.underlying dT = some (.slice e)) (hs : (P.info? e).map (·.size) = some size) (hm : m = Nat.min sl dl) (how : Own w base e size (some ⟨g, 0, none⟩) N cap (L.flatMap c)) (hl : L.length = N) (hc : ∀ x, (c x).length = size)
    (h1 : ∀ x, ∀ u ∈ c x, u.oneCell' = true) (hfit : i + m ≤ N) (hl2 : L2.length = sl) (hsrc : RowE w sp sl size (fun j => c (L2.getD j dflt)))
    (h : ∀ w', Chg (Is g) w w' → w'.heap.size = w.heap.size → Own w' base e size (some ⟨g, 0, none⟩) N cap ((L.take i ++ (L2.take m ++ L.drop (i + m))).flatMap c) → K (updo F dd (.int .i64 m)) w') : OW P n F o w K := fun hok Q => by
  subst hd
  obtain ⟨inf, hq, hi⟩ := Option.map_eq_some_iff.1 hs
  obtain ⟨cur, h2, h3, h4, h5, h6, h7⟩ := how.cur
  have fin : ∀ w', (Builtin.copy_ #[dT, sT] o.type #[.slice dp dl dc, .slice sp sl sc]).run P w = .ok (goInt m) w' → (Chg (Is g) w w') → w'.heap.size = w.heap.size →
      Own w' base e size (some ⟨g, 0, none⟩) N cap ((L.take i ++ (L2.take m ++ L.drop (i + m))).flatMap c) → Oper.wp P o (fr n F) w (fun a w' => ∃ G, a = fr n G ∧ K G w') Q := by
    intro w' hrun e1 e2 e3
    unfold Oper.wp
    rw [eval_fr]
    have hrun2 : (execOp (ev n F) o).run P w = .ok (.value (.int .i64 m)) w' := by
      unfold execOp
      rw [ho]
      simp [resolve, invoke, builtin, hx, hy, hrun]
      rfl
    rw [hrun2]
    exact ⟨_, put_fr n F o.dst _ hok, h w' e1 e2 e3⟩
  by_cases h0 : m = 0
  · subst h0
    refine fin w ?_ ((Chg.refl w).mono fun _ _ h => h.elim) rfl (by simpa using how)
    have hfc : ∀ (v : Option Addr), (Builtin.firstCells inf.size 0 (.slice v sl sc)).run P w = .ok #[] w := by
      intro v; cases v <;> simp [Builtin.firstCells, loadCells, loadCellsFrom]
    cases dp <;> simp [Builtin.copy_, run_underlying ht, Builtin.lenOf, sizeOf, typeInfo, hq, ← hm, hfc, storeCells]
  · have hml : m ≤ sl := by rw [hm]; exact Nat.min_le_left _ _
    obtain ⟨b, off, rfl, _⟩ := hsrc.at_ (by omega)
    obtain rfl := hdp (by omega)
    have hcs : ((L2.take m).flatMap c).length = m * size := by rw [fl_len hc, List.length_take, Nat.min_eq_left (by omega)]
    have hload := run_loadCells_list (P := P) w ⟨b, off, none⟩ ((L2.take m).flatMap c) (hsrc.flat hc hl2 hml)
    rw [hcs] at hload
    have hle : i * size + m * size ≤ N * size := by rw [← Nat.add_mul]; exact Nat.mul_le_mul_right _ hfit
    have hle2 : N * size ≤ cap * size := Nat.mul_le_mul_right _ h4
    have hst := run_storeCells_at P g (i * size) e ((L2.take m).flatMap c) 0 cur w h3 (by rw [hcs, h6]; omega) (by intro v hv; obtain ⟨x, _, hx⟩ := List.mem_flatMap.1 hv; exact h1 x v hx)
    rw [Nat.add_zero, hcs] at hst
    refine fin (w.setRow g (cur.toList.take (i * size) ++ (L2.take m).flatMap c ++ cur.toList.drop (i * size + m * size)).toArray) ?_ (setRow_chg w g _) (setRow_size w g _) ?_
    · simp [Builtin.copy_, run_underlying ht, Builtin.lenOf, Builtin.firstCells, sizeOf, typeInfo, hq, hi, ← hm, hload, hst]
    · refine Own.of_cur (setRow_heap w g cur _ e _ h3) h2 h4 h5 ?_ ?_
      · simp only [List.size_toArray, List.length_append, List.length_take, List.length_drop, Array.length_toList, hcs, h6]
        rw [Nat.min_eq_left (by omega)]; omega
      · have e1 : cur.toList.take (i * size) = (L.take i).flatMap c := by
          rw [← fl_take hc, ← h7, List.take_take, Nat.min_eq_left (by omega)]
        have e2 : (cur.toList.drop (i * size + m * size)).take (N * size - (i * size + m * size)) = (L.drop (i + m)).flatMap c := by
          rw [← fl_drop hc, ← h7, Nat.add_mul, List.drop_take]
        simp only [List.toList_toArray]
        rw [List.flatMap_append, List.flatMap_append, e1, List.append_assoc, ← e2]
        rw [List.take_append, List.take_append]
        have l1 : ((L.take i).flatMap c).length = i * size := by rw [fl_len hc, List.length_take, Nat.min_eq_left (by omega)]
        rw [l1, hcs, List.take_of_length_le (l := (L.take i).flatMap c) (by rw [l1]; omega), List.take_of_length_le (l := (L2.take m).flatMap c) (by rw [hcs]; omega), Nat.sub_sub]
theorem zc_size (z : Array Value) (k : Nat) : (Builtin.zeroCells z k).toList.length = k * z.size := by simp [Builtin.zeroCells]
theorem zc_size' (z : Array Value) (k : Nat) : (Builtin.zeroCells z k).size = k * z.size := by simp [Builtin.zeroCells]
theorem zc_one {z : Array Value} (h : ∀ v ∈ z.toList, v.oneCell' = true) (k : Nat) : ∀ v ∈ (Builtin.zeroCells z k).toList, v.oneCell' = true := by
  intro v hv
  simp only [Builtin.zeroCells, Array.toList_map, List.mem_map] at hv
  obtain ⟨j, hj, rfl⟩ := hv
  have hj2 : j < k * z.size := by simpa using hj
  have hp : 0 < z.size := by
    rcases Nat.eq_zero_or_pos z.size with h0 | h0
    · rw [h0] at hj2; omega
    · exact h0
  have hm : j % z.size < z.size := Nat.mod_lt _ hp
  rw [getElem!_pos z (j % z.size) hm]
  exact h _ (by simp)
theorem OW.clr {o : Oper} {dd : Option Nat} {t e : TypeId} {x : Operand} {g base size m cap k c2 : Nat} {a2 : Option Addr} {z : Value} {xs : List Value} {K : Fr → World → Prop} (i : Nat) (hd : o.dst = dd)
    (ho : o.op = .call { callee := .builtin .clear, args := #[x], argTypes := #[t] }) (hx : ev n F x = .slice a2 k c2) (ha : 0 < k → a2 = some ⟨g, i * size, none⟩) (ht : P.underlying t = some (.slice e))
    (hi : (P.info? e).map (fun i => (i.zero, i.size)) = some (some z, size)) (hz : z.cells.size = size) (h1 : ∀ v ∈ z.cells.toList, v.oneCell' = true) (how : Own w base e size (some ⟨g, 0, none⟩) m cap xs) (hmi : m ≤ i) (hfit : i + k ≤ cap)
    (h : ∀ w', Chg (Is g) w w' → w'.heap.size = w.heap.size → Own w' base e size (some ⟨g, 0, none⟩) m cap xs → K (updo F dd (.tuple #[])) w') : OW P n F o w K := fun hok Q => by
  subst hd
  obtain ⟨inf, hq, hi⟩ := Option.map_eq_some_iff.1 hi
  simp only [Prod.mk.injEq] at hi
  obtain ⟨hi1, hi2⟩ := hi
  obtain ⟨cur, h2, h3, h4, h5, h6, h7⟩ := how.cur
  have fin : ∀ w', (Builtin.clear_ #[t] o.type #[.slice a2 k c2]).run P w = .ok (.tuple #[]) w' → (Chg (Is g) w w') → w'.heap.size = w.heap.size →
      Own w' base e size (some ⟨g, 0, none⟩) m cap xs → Oper.wp P o (fr n F) w (fun a w' => ∃ G, a = fr n G ∧ K G w') Q := by
    intro w' hrun e1 e2 e3
    unfold Oper.wp
    rw [eval_fr]
    have hrun2 : (execOp (ev n F) o).run P w = .ok (.value (.tuple #[])) w' := by
      unfold execOp
      rw [ho]
      simp [resolve, invoke, builtin, hx, hrun]
    rw [hrun2]
    exact ⟨_, put_fr n F o.dst _ hok, h w' e1 e2 e3⟩
  by_cases h0 : k = 0
  · subst h0
    refine fin w ?_ ((Chg.refl w).mono fun _ _ h => h.elim) rfl how
    cases a2 <;> simp [Builtin.clear_, run_underlying ht]
  · obtain rfl := ha (by omega)
    have hle : (i + k) * size ≤ cap * size := Nat.mul_le_mul_right _ hfit
    have hle2 : m * size ≤ i * size := Nat.mul_le_mul_right _ hmi
    rw [Nat.add_mul] at hle
    have hmin : min (i * size) (cap * size) = i * size := Nat.min_eq_left (Nat.le_trans (Nat.le_add_right _ _) hle)
    have hst := run_storeCells_at P g (i * size) e (Builtin.zeroCells z.cells k).toList 0 cur w h3 (by rw [zc_size, hz, h6]; omega) (zc_one h1 k)
    rw [Nat.add_zero, zc_size, hz] at hst
    refine fin (w.setRow g (cur.toList.take (i * size) ++ (Builtin.zeroCells z.cells k).toList ++ cur.toList.drop (i * size + k * size)).toArray) ?_ (setRow_chg w g _) (setRow_size w g _) ?_
    · cases k with
      | zero => omega
      | succ k => simp [Builtin.clear_, run_underlying ht, zeroValue, typeInfo, hq, hi1, hst]
    · refine Own.of_cur (setRow_heap w g cur _ e _ h3) h2 h4 h5 ?_ ?_
      · simp only [List.size_toArray, List.length_append, List.length_take, List.length_drop, Array.length_toList, zc_size', hz, h6]
        rw [hmin]; omega
      · simp only [List.toList_toArray]
        rw [List.append_assoc, List.take_append_of_le_length (by rw [List.length_take, Array.length_toList, h6, hmin]; exact hle2), List.take_take, Nat.min_eq_left hle2, h7]
end K
end Go.Proofs.Ytnehocjmgnhhhaa
