import Derived.Test.YtnehocjmgnhhhaaKw
import Derived.Lib.AppendZerosOnto
/- Rows of the call's own at the level of cells: more room, copy, append of noughts. -/
namespace Go.Proofs.Ytnehocjmgnhhhaa
open Go.RowKit
set_option linter.unusedVariables false
namespace K
variable {P : Program} {n : Nat} {F : Fr} {w : World}
section
variable {w' : World} {base : Nat} {e : TypeId} {size m cap : Nat} {a : Option Addr} {xs : List Value}
theorem Own.wide {g : Nat} (h : Own w base e size (some ⟨g, 0, none⟩) m cap xs) (m' : Nat) (h1 : m ≤ m') (h2 : m' ≤ cap) : ∃ us, us.length = (m' - m) * size ∧ Own w base e size (some ⟨g, 0, none⟩) m' cap (xs ++ us) := by
  obtain ⟨cur, h3, h4, h5, h6, h7, h8⟩ := h.cur
  have hle : m' * size ≤ cap * size := Nat.mul_le_mul_right _ h2
  have hle2 : m * size ≤ m' * size := Nat.mul_le_mul_right _ h1
  refine ⟨(cur.toList.drop (m * size)).take ((m' - m) * size), ?_, Own.of_cur h4 h3 h2 h6 h7 ?_⟩
  · rw [List.length_take, List.length_drop, Array.length_toList, h7, Nat.sub_mul]; omega
  · rw [← h8, ← List.take_add, Nat.sub_mul]
    congr 1
    omega
theorem Own.cells {g : Nat} (h : Own w base e size (some ⟨g, 0, none⟩) m cap xs) : ∀ j u, xs[j]? = some u → w.cell? ((⟨g, 0, none⟩ : Addr).add j) = some u := World.ownsRow.cells (g := g) h rfl
theorem Own.cellsAt {g i : Nat} (h : Own w base e size (some ⟨g, 0, none⟩) m cap xs) : ∀ j u, (xs.drop i)[j]? = some u → w.cell? ((⟨g, i, none⟩ : Addr).add j) = some u := fun j u hj => by
  have := h.cells (i + j) u (by rw [List.getElem?_drop] at hj; exact hj)
  rw [Addr.add_off] at this ⊢
  rw [Nat.zero_add] at this
  exact this
end
theorem OW.cpV {o : Oper} {dd : Option Nat} {dT sT e : TypeId} {d s : Operand} {g dl dc sl sc base size N cap : Nat} {dp sp : Option Addr} {ys cs : List Value} {K : Fr → World → Prop} (i m : Nat)
    (hd : o.dst = dd) (ho : o.op = .call { callee := .builtin .copy, args := #[d, s], argTypes := #[dT, sT] }) (hx : ev n F d = .slice dp dl dc) (hy : ev n F s = .slice sp sl sc) (hm0 : 0 < m) (hdp : dp = some ⟨g, i * size, none⟩)
    (ht : P.underlying dT = some (.slice e)) (hs : (P.info? e).map (·.size) = some size) (hm : m = Nat.min sl dl) (how : Own w base e size (some ⟨g, 0, none⟩) N cap ys)
    (hfit : i + m ≤ N) (hcs : cs.length = m * size) (hsrc : ∃ ad, sp = some ad ∧ ∀ j v, cs[j]? = some v → w.cell? (ad.add j) = some v) (h1 : ∀ v ∈ cs, v.oneCell' = true)
    (h : ∀ w', Chg (Is g) w w' → w'.heap.size = w.heap.size → Own w' base e size (some ⟨g, 0, none⟩) N cap (ys.take (i * size) ++ (cs ++ ys.drop ((i + m) * size))) → K (updo F dd (.int .i64 m)) w') : OW P n F o w K := fun hok Q => by
  subst hd
  obtain ⟨inf, hq, hi⟩ := Option.map_eq_some_iff.1 hs
  obtain ⟨cur, h2, h3, h4, h5, h6, h7⟩ := how.cur
  obtain ⟨ad, rfl, hsrc⟩ := hsrc
  subst hdp
  have hload := run_loadCells_list (P := P) w ad cs hsrc
  rw [hcs] at hload
  have hle : i * size + m * size ≤ N * size := by rw [← Nat.add_mul]; exact Nat.mul_le_mul_right _ hfit
  have hle2 : N * size ≤ cap * size := Nat.mul_le_mul_right _ h4
  have hst := run_storeCells_at P g (i * size) e cs 0 cur w h3 (by rw [hcs, h6]; omega) h1
  rw [Nat.add_zero, hcs] at hst
  have hrun : (Builtin.copy_ #[dT, sT] o.type #[.slice (some ⟨g, i * size, none⟩) dl dc, .slice (some ad) sl sc]).run P w = .ok (goInt m) (w.setRow g (cur.toList.take (i * size) ++ cs ++ cur.toList.drop (i * size + m * size)).toArray) := by
    simp [Builtin.copy_, run_underlying ht, Builtin.lenOf, Builtin.firstCells, sizeOf, typeInfo, hq, hi, ← hm, hload, hst]
  unfold Oper.wp
  rw [eval_fr]
  have hrun2 : (execOp (ev n F) o).run P w = .ok (.value (.int .i64 m)) (w.setRow g (cur.toList.take (i * size) ++ cs ++ cur.toList.drop (i * size + m * size)).toArray) := by
    unfold execOp
    rw [ho]
    simp [resolve, invoke, builtin, hx, hy, hrun]
    rfl
  rw [hrun2]
  refine ⟨_, put_fr n F o.dst _ hok, h _ (setRow_chg w g _) (setRow_size w g _) (Own.of_cur (setRow_heap w g cur _ e _ h3) h2 h4 h5 ?_ ?_)⟩
  · have hmin : min (i * size) (cap * size) = i * size := Nat.min_eq_left (Nat.le_trans (Nat.le_add_right _ _) (Nat.le_trans hle hle2))
    simp only [List.size_toArray, List.length_append, List.length_take, List.length_drop, Array.length_toList, hcs, h6]
    rw [hmin]; omega
  · have l1 : (cur.toList.take (i * size)).length = i * size := by rw [List.length_take, Array.length_toList, h6]; exact Nat.min_eq_left (by omega)
    simp only [List.toList_toArray]
    rw [← h7, List.take_take, Nat.min_eq_left (show i * size ≤ N * size by omega), List.append_assoc, List.take_append, List.take_append, l1, hcs, List.take_of_length_le (l := cur.toList.take (i * size)) (by rw [l1]; omega), List.take_of_length_le (l := cs) (by rw [hcs]; omega), Nat.sub_sub, List.drop_take, Nat.add_mul]
theorem OW.growZ {o : Oper} {dd : Option Nat} {s x : Operand} {t tn e : TypeId} {base g i cap k size bytes : Nat} {kd : IntKind} {z : Value} {olds : List Value} {K : Fr → World → Prop} (hd : o.dst = dd)
    (ho : o.op = .call { callee := .builtin .append, args := #[s, x], argTypes := #[t, tn] }) (hs : ev n F s = .slice (some ⟨g, 0, none⟩) i cap) (hx : ev n F x = .int kd k) (ht : P.underlying t = some (.slice e)) (htn : P.underlying tn = some (.int kd))
    (hi : (P.info? e).map (fun i => (i.zero, i.size, i.bytes)) = some (some z, size, bytes)) (hz : z.cells.size = size) (hpos : 0 < size) (hown : Own w base e size (some ⟨g, 0, none⟩) i cap olds) (hk : 0 < k) (hroom : cap < i + k)
    (hm : i + k ≤ maxLen) (hb : (i + k) * bytes ≤ 140737488355328) (hbase : base ≤ w.heap.size)
    (h : ∀ r cap' w' zs, w.heap.size ≤ r → Chg No w w' → zs.length = k * size → Own w' base e size (some ⟨r, 0, none⟩) (i + k) cap' (olds ++ zs) → K (updo F dd (.slice (some ⟨r, 0, none⟩) (i + k) cap')) w') : OW P n F o w K := fun hok Q => by
  subst hd
  obtain ⟨inf, hi0, hz0, hz1, hz2⟩ := info_parts hi
  have hol : olds.length = i * size := hown.1
  have hfirst : (Builtin.firstCells inf.size i (.slice (some ⟨g, 0, none⟩) i cap)).run P w.drew = .ok olds.toArray w.drew := run_firstCells_some (P := P) w.drew inf.size i ⟨g, 0, none⟩ i cap olds (by rw [hz1]; exact hol) (Own.cells (w := w.drew) hown.drew)
  have hkb : k * bytes ≤ (i + k) * bytes := Nat.mul_le_mul_right _ (by omega)
  have hml : i + k ≤ 9223372036854775807 := by simp only [maxLen] at hm; omega
  have hrun := Lib.run_append_grow_zeros (P := P) w t tn o.type e inf z kd kd ht htn hi0 hz0 (some ⟨g, 0, none⟩) i cap olds hfirst k hk (by omega) hroom (by omega) (by rw [hz2]; omega) (growslice_fits (by omega) (by rw [hz2]; exact hb))
  refine Lib.wp_append_run w s x t tn ho _ _ (by rw [eval_fr]; exact hs) (by rw [eval_fr]; exact hx) _ _ hrun ?_
  have hge := grownCap_ge w (i + k) cap e
  refine ⟨_, put_fr n F o.dst _ hok, h _ _ _ (Builtin.zeroCells z.cells k).toList (Nat.le_refl _) (((Chg.refl w).drew).no (Chg.alloc _ _)) (by rw [zc_size, hz]) (Own.of_cur (heap_alloc_new w.drew _) hbase hge (grownCap_le_maxLen w (i + k) cap e hm) ?_ ?_)⟩
  · have : (grownCap w (i + k) cap e - (i + k)) * size = grownCap w (i + k) cap e * size - (i + k) * size := Nat.sub_mul _ _ _
    have h2 : (i + k) * size ≤ grownCap w (i + k) cap e * size := Nat.mul_le_mul_right _ hge
    simp only [Array.size_append, List.size_toArray, hol, zc_size', hz]
    rw [Nat.add_mul] at *
    omega
  · have l1 : (olds ++ (Builtin.zeroCells z.cells k).toList).length = (i + k) * size := by rw [List.length_append, hol, zc_size, hz, Nat.add_mul]
    simp only [Array.toList_append]
    rw [List.take_append_of_le_length (by rw [l1]; exact Nat.le_refl _), List.take_of_length_le (by rw [l1]; exact Nat.le_refl _)]
theorem QR.slLoHi {o : Oper} {t e : TypeId} {x l h : Operand} {a : Option Addr} {m cap size : Nat} {kd kh : IntKind} (i j : Nat) (ho : o.op = .slice t x (some l) (some h) none) (hx : ev n F x = .slice a m cap) (hl : ev n F l = .int kd i) (hh : ev n F h = .int kh j)
    (ht : P.underlying t = some (.slice e)) (hs : (P.info? e).map (·.size) = some size) (hi : i ≤ j) (hj : j ≤ cap) : QR P n F o (.slice (shift a cap i size) (j - i) (cap - i)) w := by
  obtain ⟨inf, hinf, hsz⟩ := Option.map_eq_some_iff.1 hs
  unfold QR execOp
  rw [ho]
  simp only [Option.map_some, Option.map_none, Instr.sliceAt, Sem.run_bind, run_underlying ht, Result.andThen_ok, Instr.slice, hx, hl, hh, Instr.sliceBounds, Sem.run_pure, run_sliceBound hi, run_sliceBound hj, sizeOf, typeInfo, hinf, hsz, shift, Option.isSome_none, Bool.false_eq_true, if_false]
  simp [hinf, hsz]
theorem QR.sl3 {o : Oper} {t e : TypeId} {x l h q : Operand} {a : Option Addr} {m cap size : Nat} {kd kh kq : IntKind} (i j r : Nat) (ho : o.op = .slice t x (some l) (some h) (some q)) (hx : ev n F x = .slice a m cap) (hl : ev n F l = .int kd i) (hh : ev n F h = .int kh j) (hq : ev n F q = .int kq r)
    (ht : P.underlying t = some (.slice e)) (hs : (P.info? e).map (·.size) = some size) (hi : i ≤ j) (hj : j ≤ r) (hr : r ≤ cap) : QR P n F o (.slice (shift a r i size) (j - i) (r - i)) w := by
  obtain ⟨inf, hinf, hsz⟩ := Option.map_eq_some_iff.1 hs
  unfold QR execOp
  rw [ho]
  simp only [Option.map_some, Option.map_none, Instr.sliceAt, Sem.run_bind, run_underlying ht, Result.andThen_ok, Instr.slice, hx, hl, hh, hq, Instr.sliceBounds, Sem.run_pure, run_sliceBound hi, run_sliceBound hj, run_sliceBound hr, sizeOf, typeInfo, hinf, hsz, shift, Option.isSome_some, Bool.false_eq_true, if_false]
  simp [hinf, hsz]
theorem OW.appV {o : Oper} {dd : Option Nat} {s x : Operand} {t e : TypeId} {base g m cap k c2 size : Nat} {a2 : Option Addr} {ys cs : List Value} {K : Fr → World → Prop} (hd : o.dst = dd)
    (ho : o.op = .call { callee := .builtin .append, args := #[s, x], argTypes := #[t, t] }) (hs : ev n F s = .slice (some ⟨g, 0, none⟩) m cap) (hown : Own w base e size (some ⟨g, 0, none⟩) m cap ys) (hx : ev n F x = .slice a2 k c2)
    (ht : P.underlying t = some (.slice e)) (hi : (P.info? e).map (·.size) = some size) (hcs : cs.length = k * size) (hsrc : 0 < k → ∃ ad, a2 = some ad ∧ ∀ j v, cs[j]? = some v → w.cell? (ad.add j) = some v) (h1 : ∀ v ∈ cs, v.oneCell' = true) (hroom : m + k ≤ cap)
    (h : ∀ w', Chg (Is g) w w' → w'.heap.size = w.heap.size → Own w' base e size (some ⟨g, 0, none⟩) (m + k) cap (ys ++ cs) → K (updo F dd (.slice (some ⟨g, 0, none⟩) (m + k) cap)) w') : OW P n F o w K := fun hok Q => by
  subst hd
  obtain ⟨inf, hq, hi⟩ := Option.map_eq_some_iff.1 hi
  obtain ⟨cur, h2, h3, h4, h5, h6, h7⟩ := hown.cur
  subst hi
  by_cases hk : k = 0
  · subst hk
    obtain rfl : cs = [] := List.eq_nil_of_length_eq_zero (by simpa using hcs)
    have hrun : (Builtin.append_ #[t, t] o.type #[.slice (some ⟨g, 0, none⟩) m cap, .slice a2 0 c2]).run P w = .ok (.slice (some ⟨g, 0, none⟩) (m + 0) cap) w := by
      cases a2 <;> simp [Builtin.append_, run_underlying ht, sizeOf, typeInfo, hq, Builtin.lenOf, h4, Builtin.firstCells, loadCells, loadCellsFrom, storeCells]
    refine Lib.wp_append_run w s x t t ho _ _ (by rw [eval_fr]; exact hs) (by rw [eval_fr]; exact hx) _ _ hrun ?_
    exact ⟨_, put_fr n F o.dst _ hok, h _ ((Chg.refl w).mono fun _ _ h => h.elim) rfl (by simpa using hown)⟩
  · obtain ⟨ad, rfl, hsrc2⟩ := hsrc (by omega)
    have hle : (m + k) * inf.size ≤ cap * inf.size := Nat.mul_le_mul_right _ hroom
    rw [Nat.add_mul] at hle
    have hr := run_append_room (P := P) w t o.type e inf ht hq g m cap cur h3 ad k c2 cs hcs hsrc2 h1 hroom (by rw [hcs, h6]; exact hle)
    rw [hcs] at hr
    refine Lib.wp_append_run w s x t t ho _ _ (by rw [eval_fr]; exact hs) (by rw [eval_fr]; exact hx) _ _ hr ?_
    refine ⟨_, put_fr n F o.dst _ hok, h _ (setRow_chg w g _) (setRow_size w g _) (Own.of_cur (setRow_heap w g cur _ e _ h3) h2 hroom h5 ?_ ?_)⟩
    · simp only [List.size_toArray, List.length_append, List.length_take, List.length_drop, Array.length_toList, hcs, h6]
      rw [Nat.min_eq_left (by omega)]; omega
    · have l1 : (cur.toList.take (m * inf.size) ++ cs).length = (m + k) * inf.size := by
        rw [List.length_append, List.length_take, Array.length_toList, hcs, h6, Nat.min_eq_left (by omega), Nat.add_mul]
      simp only [List.toList_toArray]
      rw [List.take_append_of_le_length (by rw [l1]; exact Nat.le_refl _), List.take_of_length_le (by rw [l1]; exact Nat.le_refl _), h7]
theorem DW.l2 {Q : Exit → Fr → World → Prop} {ops : Array Oper} {S : World → Prop} {fuel : Nat} {listed : Array Bool} (i j : Nat) {oi oj : Oper} (hi : ops[i]? = some oi) (hj : ops[j]? = some oj) (hr : Region.ready .any ops listed = [i, j]) (hgi : gd ops n F oi = true) (hgj : gd ops n F oj = true)
    (h1 : OW P n F oi w (fun G w' => (S w' ∨ lastOp ops i = true) ∧ DW P n ops S fuel (listed.setIfInBounds i true) Q G w')) (h2 : OW P n F oj w (fun G w' => (S w' ∨ lastOp ops j = true) ∧ DW P n ops S fuel (listed.setIfInBounds j true) Q G w')) : DW P n ops S (fuel + 1) listed Q F w := by
  obtain ⟨hgi, hoki⟩ := gd_spec hgi
  obtain ⟨hgj, hokj⟩ := gd_spec hgj
  refine wpAnyG_all hr (by simp) ?_
  intro k hk
  simp only [List.mem_cons, List.not_mem_nil, or_false] at hk
  rcases hk with rfl | rfl
  · unfold wpOp
    rw [hi]
    simp only []
    rw [wanted_fr, if_pos hgi]
    refine .inl (Oper.wp_mono ?_ (h1 hoki _))
    rintro a w' ⟨G, rfl, h⟩
    exact h
  · unfold wpOp
    rw [hj]
    simp only []
    rw [wanted_fr, if_pos hgj]
    refine .inl (Oper.wp_mono ?_ (h2 hokj _))
    rintro a w' ⟨G, rfl, h⟩
    exact h
end K
end Go.Proofs.Ytnehocjmgnhhhaa
