import Derived.Test.YtnehocjmgnhhhaaKq
/- More of the step logic: results that lie in memory, pointers, arrays. -/
namespace Go.Proofs.Ytnehocjmgnhhhaa
open Go.RowKit
namespace K
section
variable {ρ : Option Nat} {P : Program} {n : Nat} {Q : Exit → Fr → World → Prop} {F : Fr} {w : World}
/-! ### Results -/
theorem lv1 {t : TypeId} {p : Addr} {v : Value} (ha : aggT P t = some false) (hc : w.cell? p = some v) : (loadVar t p).run P w = .ok v w := by
  simp [loadVar, isAgg_run ha, hc]
theorem lvN {t : TypeId} {b off : Nat} (cs : List Value) (ha : aggT P t = some true) (hs : (P.info? t).map (·.size) = some cs.length)
    (hc : ∀ j v, cs[j]? = some v → w.cell? ⟨b, off + j, none⟩ = some v) : (loadVar t ⟨b, off, none⟩).run P w = .ok (.agg cs.toArray) w := by
  obtain ⟨i, hi, hsz⟩ := Option.map_eq_some_iff.1 hs
  have hl := run_loadCells_list (P := P) (w := w) ⟨b, off, none⟩ cs (fun j v hj => by rw [Addr.add_off]; exact hc j v hj)
  simp [loadVar, isAgg_run ha, sizeOf, typeInfo, hi, hsz, hl]
def ResAt (P : Program) (n : Nat) (F : Fr) (w : World) : List ResultVar → List Value → Prop
  | [], [] => True
  | .tmp t :: rs, v :: vs => ev n F (.tmp t) = v ∧ ResAt P n F w rs vs
  | .cell a t :: rs, v :: vs => (∃ p, ev n F (.tmp a) = .pointer (some p) ∧ (loadVar t p).run P w = .ok v w) ∧ ResAt P n F w rs vs
  | _, _ => False
def tupOf : List Value → Value
  | [v] => v
  | vs => .tuple vs.toArray
def rdRes (n : Nat) (F : Fr) : ResultVar → Sem Value
  | .tmp t => pure ((arr n F).getD t undef)
  | .cell a t => do loadVar t (← asAddr ((arr n F).getD a undef))
theorem resAt_run : ∀ (rs : List ResultVar) (vs : List Value), ResAt P n F w rs vs → (rs.mapM (rdRes n F)).run P w = .ok vs w
  | [], [], _ => by simp
  | .tmp t :: rs, v :: vs, h => by
    have ih := resAt_run rs vs h.2
    have h : (arr n F).getD t undef = v := by rw [arr_getD]; exact h.1
    simp only [List.mapM_cons, Sem.run_bind, Sem.run_pure, Result.andThen_ok, ih, h, rdRes]
  | .cell a t :: rs, v :: vs, h => by
    obtain ⟨⟨p, hp, hl⟩, h2⟩ := h
    have ih := resAt_run rs vs h2
    have h : (arr n F).getD a undef = .pointer (some p) := by rw [arr_getD]; exact hp
    have hh : (asAddr (.pointer (some p))).run P w = .ok p w := by simp [asAddr]
    simp only [List.mapM_cons, Sem.run_bind, Sem.run_pure, Result.andThen_ok, ih, h, hh, hl, rdRes]
  | [], _ :: _, h => h.elim
  | .tmp _ :: _, [], h => h.elim
  | .cell _ _ :: _, [], h => h.elim
theorem resAt {fn : Func} {rs : List ResultVar} (vs : List Value) (h : fn.results = rs.toArray) (hr : ResAt P n F w rs vs) : (results fn (arr n F)).run P w = .ok (tupOf vs) w := by
  have h1 := resAt_run rs vs hr
  have h2 : (fn.results.mapM (rdRes n F)).run P w = .ok vs.toArray w := by
    rw [h, List.mapM_toArray]
    simp [h1]
  have h3 : results fn (arr n F) = (do let vs ← fn.results.mapM (rdRes n F); pure (if h : vs.size = 1 then vs[0] else .tuple vs)) := rfl
  rw [h3]
  simp only [Sem.run_bind, h2, Result.andThen_ok, Sem.run_pure]
  cases vs with
  | nil => rfl
  | cons v vs => cases vs <;> rfl
/-! ### append, and where its row lies -/
theorem run_app2 (base : Nat) (t ty e : TypeId) (i : TypeInfo) (z : Value) (size bytes : Nat) (ht : P.underlying t = some (.slice e)) (hi : P.info? e = some i) (hz : i.zero = some z)
    (hsize : i.size = size) (hby : i.bytes = bytes) (hzs : z.cells.size = size) (hsz : 0 < size)
    (v : Value) (m0 : Nat) (xs : List Value) (hown : w.ownsRow base e size v m0 xs)
    (a : Addr) (m c : Nat) (news : List Value) (hl : news.length = m * size) (hnews : ∀ j u, news[j]? = some u → w.cell? (a.add j) = some u) (h1 : ∀ u ∈ news, u.oneCell' = true)
    (h63 : m0 + m ≤ maxLen) (hbytes : (m0 + m) * bytes ≤ 140737488355328) (hbase : base ≤ w.heap.size) :
    ∃ v' w', (Builtin.append_ #[t, t] ty #[v, .slice (some a) m c]).run P w = .ok v' w' ∧ w'.ownsRow base e size v' (m0 + m) (xs ++ news) ∧ w.grownBy w' v.ownBlock ∧
      (v' = .slice none 0 0 ↔ v = .slice none 0 0 ∧ m = 0) ∧ (∀ b, v'.ownBlock = some b → v.ownBlock = some b ∨ w.heap.size ≤ b) := by
  obtain ⟨v', w', hr, h2, h3, h4⟩ := run_append_own (P := P) w base t ty e i z size bytes ht hi hz hsize hby hzs hsz v m0 xs hown a m c news hl hnews h1 h63 hbytes hbase
  refine ⟨v', w', hr, h2, h3, h4, ?_⟩
  intro b hb
  subst hsize hby
  have hsmall : m0 + m ≤ 9223372036854775807 := by simp only [maxLen] at h63; omega
  have fin : ∀ {x : Value} {u : World}, (Builtin.append_ #[t, t] ty #[v, .slice (some a) m c]).run P w = .ok x u → v' = x := fun h => by
    rw [hr] at h; injection h
  rcases hown.2 with ⟨rfl, rfl⟩ | ⟨g, cap, cur, rfl, hbg, hg, hnc, hcm, hcs, htake⟩
  · have hx : xs = [] := List.eq_nil_of_length_eq_zero (by simpa using hown.1)
    subst hx
    by_cases hm : m = 0
    · rw [h4.2 ⟨rfl, hm⟩] at hb; cases hb
    · have hr2 := run_append_nil (P := P) w t ty e i z ht hi hz a m c news hl hnews (by omega) (by omega) (by have hb := hbytes; simp only [Nat.zero_add] at hb; omega)
      rw [fin hr2] at hb
      simp [Value.ownBlock] at hb
      omega
  · by_cases hroom : m0 + m ≤ cap
    · have hfit : m0 * i.size + news.length ≤ cur.size := by rw [hl, hcs, ← Nat.add_mul]; exact Nat.mul_le_mul_right _ hroom
      have hr2 := run_append_room (P := P) w t ty e i ht hi g m0 cap cur hg a m c news hl hnews h1 hroom hfit
      rw [fin hr2] at hb
      exact .inl hb
    · have holds : ∀ j u, xs[j]? = some u → w.cell? ((⟨g, 0, none⟩ : Addr).add j) = some u := hown.cells (g := g) rfl
      have hr2 := run_append_grow (P := P) w t ty e i z ht hi hz ⟨g, 0, none⟩ m0 cap xs hown.1 holds a m c news hl hnews (by omega) (by omega) (growslice_fits (by omega) hbytes)
      rw [fin hr2] at hb
      simp [Value.ownBlock] at hb
      omega
/-- 'append(s, x...)', s of the call's own, x a row that is known; where it lies. -/
theorem OW.app2 {o : Oper} {dd : Option Nat} {s x : Operand} {t e : TypeId} {base : Nat} {a : Option Addr} {m cap : Nat} {xs : List Value} {b off k c : Nat} {z : Value} {size bytes : Nat} {K : Fr → World → Prop} (hd : o.dst = dd) (news : List Value)
    (ho : o.op = .call { callee := .builtin .append, args := #[s, x], argTypes := #[t, t] }) (hs : ev n F s = .slice a m cap) (hown : Own w base e size a m cap xs) (hx : ev n F x = .slice (some ⟨b, off, none⟩) k c)
    (ht : P.underlying t = some (.slice e)) (hi : (P.info? e).map (fun i => (i.zero, i.size, i.bytes)) = some (some z, size, bytes)) (hz : z.cells.size = size) (hpos : 0 < size)
    (hl : news.length = k * size) (hn : ∀ j u, news[j]? = some u → w.cell? ⟨b, off + j, none⟩ = some u) (h1 : ∀ u ∈ news, u.oneCell' = true)
    (hm : m + k ≤ maxLen) (hb : (m + k) * bytes ≤ 140737488355328) (hbase : base ≤ w.heap.size)
    (h : ∀ a' cap' w', Chg (Ow a) w w' → Own w' base e size a' (m + k) cap' (xs ++ news) → (∀ j, Ow a' j → Ow a j ∨ w.heap.size ≤ j) → K (updo F dd (.slice a' (m + k) cap')) w') : OW P n F o w K := fun hok Q => by
  subst hd
  obtain ⟨i, hi0, hz0, hz1, hz2⟩ := info_parts hi
  obtain ⟨v', w', hr, h2, h3, h4, h5⟩ := run_app2 (P := P) (w := w) base t o.type e i z size bytes ht hi0 hz0 hz1 hz2 hz hpos (.slice a m cap) m xs hown ⟨b, off, none⟩ k c news hl (fun j u hj => by rw [Addr.add_off]; exact hn j u hj) h1 hm hb hbase
  refine Lib.wp_append_run w s x t t ho _ _ (by rw [eval_fr]; exact hs) (by rw [eval_fr]; exact hx) _ _ hr ?_
  have hf : ∃ a' cap', v' = .slice a' (m + k) cap' := by
    rcases h2.2 with ⟨rfl, h⟩ | ⟨g, cap', cur, rfl, _⟩
    · exact ⟨none, 0, by rw [h]⟩
    · exact ⟨_, _, rfl⟩
  obtain ⟨a', cap', rfl⟩ := hf
  refine ⟨_, put_fr n F o.dst _ hok, h a' cap' w' (Chg.grown h3) h2 ?_⟩
  rintro j ⟨p, rfl, rfl⟩
  rcases h5 p.block rfl with h6 | h6
  · refine .inl ?_
    cases a with
    | none => simp [Value.ownBlock] at h6
    | some q => simp [Value.ownBlock] at h6; exact ⟨q, rfl, h6.symm⟩
  · exact .inr h6
end
end K
end Go.Proofs.Ytnehocjmgnhhhaa
