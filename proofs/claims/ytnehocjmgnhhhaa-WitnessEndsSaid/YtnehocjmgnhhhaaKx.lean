import Derived.Test.YtnehocjmgnhhhaaKf
import Derived.MapKept
/- Maps from numbers, of the call's own, by groups. -/
namespace Go.Proofs.Ytnehocjmgnhhhaa
open Go.RowKit Go.MapKept
set_option linter.unusedVariables false
namespace K
def MapH {α : Type} (c : α → Value) (es : Array MapEntry) (clock : Nat) (M : Int → Option α) : Prop :=
  Stamped es clock ∧ (∀ x ∈ es.toList, ∃ t y, x.key = .int .i64 t ∧ x.val = c y ∧ M t = some y) ∧ (∀ t y, M t = some y → ∃ x ∈ es.toList, x.key = .int .i64 t)
def MapG {α : Type} (c : α → Value) (g : Cs) (r : Nat) (M : Int → Option α) : Prop := ∃ es clock, g = [(r, .map es clock)] ∧ MapH c es clock M
section
variable {P : Program} {n : Nat} {F : Fr} {w w' w0 : World} {ls : List Cs} {α : Type} {c : α → Value} {es : Array MapEntry} {clock : Nat} {M : Int → Option α} {K : Fr → World → Prop}
theorem MapH.nil : MapH c #[] 0 (fun _ => none) := ⟨stamped_empty 0, by simp, fun t y h => by cases h⟩
theorem MapH.keys (h : MapH c es clock M) : ∀ x ∈ es.toList, IsKey (.int .i64) x.key := fun x hx => by
  obtain ⟨t, y, h1, _⟩ := h.2.1 x hx
  rw [h1]; rfl
theorem MapH.find (h : MapH c es clock M) (t : Int) :
    (M t = none ∧ Instr.findNow (.int .i64) (.int .i64 t) es.toList 0 = some none ∧ ∀ x ∈ es.toList, x.key ≠ .int .i64 t) ∨ ∃ y j e, M t = some y ∧ Instr.findNow (.int .i64) (.int .i64 t) es.toList 0 = some (some (j, c y)) ∧ es[j]? = some e ∧ e.key = .int .i64 t := by
  rcases findNow_spec (d := .int .i64) (k := .int .i64 t) rfl es.toList 0 h.keys with ⟨h1, h2⟩ | ⟨j, e, h1, h2, h3⟩
  · refine .inl ⟨?_, h1, h2⟩
    cases hm : M t with
    | none => rfl
    | some y => obtain ⟨x, hx, hk⟩ := h.2.2 t y hm; exact absurd hk (h2 x hx)
  · obtain ⟨t', y, e1, e2, e3⟩ := h.2.1 e (List.mem_of_getElem? h2)
    rw [h3] at e1
    cases e1
    exact .inr ⟨y, j, e, e3, by rw [h1, e2, Nat.zero_add], by simpa using h2, h3⟩
theorem QR.mlook {o : Oper} {t k e : TypeId} {m x : Operand} {r : Nat} {th : Int} {z : Value} (v : Value) (ho : o.op = .lookup t m x true) (hm : ev n F m = .map (some r)) (hx : ev n F x = .int .i64 th) (ht : P.underlying t = some (.map k e)) (hk : P.underlying k = some (.int .i64))
    (hz : (zeroValue e).run P w = .ok z w) (hb : w.heap[r]? = some (.map es clock)) (hM : MapH c es clock M) (hv : (match M th with | some y => .tuple #[c y, .bool true] | none => .tuple #[z, .bool false]) = v) : QR P n F o v w := by
  subst hv
  unfold QR execOp
  rw [ho]
  rcases hM.find th with ⟨h0, h1, h2⟩ | ⟨y, j, e', h0, h1, h2, h3⟩
  · simp [hm, hx, Instr.lookup, run_underlying ht, Go.MapKept.run_getObj_map hb, run_checkKey hk (show IsKey (.int .i64) (.int .i64 th) from rfl), run_findKey hk h1, hz, h0, Result.andThen]
  · simp [hm, hx, Instr.lookup, run_underlying ht, Go.MapKept.run_getObj_map hb, run_checkKey hk (show IsKey (.int .i64) (.int .i64 th) from rfl), run_findKey hk h1, h0, Result.andThen]
theorem OW.gmap {o : Oper} {dd : Option Nat} {t : TypeId} (c : α → Value) (hS : Sat w0 ls w) (h : ∀ w' r g, MapG c g r (fun _ => none) → Sat w0 (g :: ls) w' → K (updo F dd (.map (some r))) w')
    (ho : o.op = .makeMap t none := by rfl) (hd : o.dst = dd := by rfl) : OW P n F o w K := fun hok Q => by
  subst hd
  have hr : (execOp (ev n F) o).run P w = .ok (.value (.map (some w.heap.size))) (w.alloc (.map #[] 0)) := by
    unfold execOp; rw [ho]; simp [Instr.makeMap, Result.andThen]
  unfold Oper.wp
  rw [eval_fr, hr]
  refine ⟨_, put_fr n F o.dst _ hok, h _ _ [(w.heap.size, .map #[] 0)] ⟨_, _, rfl, MapH.nil⟩ (hS.add (Chg.alloc w _) _ (by simp [ids]) fun q hq => ?_)⟩
  rw [List.mem_singleton.1 hq]
  exact ⟨Nat.le_refl _, heap_alloc_new w _⟩
theorem OW.gmset {o : Oper} {t k e : TypeId} {m x v : Operand} {r : Nat} {th : Int} {y : α} {g : Cs} (i : Nat) (hS : Sat w0 ls w) (hG : MapG c g r M) (hi : nth ls i = g) (h : ∀ w' g', MapG c g' r (fun a => if a = th then some y else M a) → Sat w0 (setn ls i g') w' → K F w')
    (ht : P.underlying t = some (.map k e)) (hk : P.underlying k = some (.int .i64)) (ho : o.op = .mapUpdate t m x v := by rfl) (hm : ev n F m = .map (some r) := by rfl) (hx : ev n F x = .int .i64 th := by rfl) (hv : ev n F v = c y := by rfl) (hd : o.dst = none := by rfl) : OW P n F o w K := fun hok Q => by
  obtain ⟨es, clock, rfl, hM⟩ := hG
  have hob := hS.ob i hi rfl rfl
  have hb := hob.1
  have key : ∃ es' clock', (execOp (ev n F) o).run P w = .ok .skip (w.putObj r (.map es' clock')) ∧ MapH c es' clock' (fun a => if a = th then some y else M a) := by
    unfold execOp
    rw [ho]
    have hik : IsKey (.int .i64) (.int .i64 th) := rfl
    rcases hM.find th with ⟨h0, h1, h2⟩ | ⟨y', j, e', h0, h1, h2, h3⟩
    · refine ⟨es.push { key := .int .i64 th, val := c y, born := clock }, clock + 1, ?_, stamped_push hM.1 h2, ?_, ?_⟩
      · simp [hm, hx, hv, Instr.mapUpdate, run_underlying ht, Go.MapKept.run_getObj_map hb, run_checkKey hk hik, run_findKey hk h1, run_setObj_map _ hb, Result.andThen, World.putObj]
      · intro q hq
        simp only [Array.toList_push, List.mem_append, List.mem_singleton] at hq
        rcases hq with hq | rfl
        · obtain ⟨a, b, e1, e2, e3⟩ := hM.2.1 q hq
          refine ⟨a, b, e1, e2, ?_⟩
          have : a ≠ th := fun e => h2 q hq (by rw [e1, e])
          simp [this, e3]
        · exact ⟨th, y, rfl, rfl, by simp⟩
      · intro a b hab
        by_cases ha : a = th
        · subst ha; exact ⟨{ key := .int .i64 a, val := c y, born := clock }, by simp, rfl⟩
        · simp only [ha, if_false] at hab
          obtain ⟨q, hq, e1⟩ := hM.2.2 a b hab
          exact ⟨q, by simp [Array.toList_push]; exact .inl (by simpa using hq), e1⟩
    · have hkey : ∀ e'', es[j]? = some e'' → ({ e'' with key := .int .i64 th, val := c y } : MapEntry).key = e''.key := fun e'' he => by rw [h2] at he; cases he; exact h3.symm
      refine ⟨es.modify j fun q => { q with key := .int .i64 th, val := c y }, clock, ?_, stamped_modify hM.1 _ _ (fun _ _ => rfl) (fun e'' _ he => hkey e'' he), ?_, ?_⟩
      · simp [hm, hx, hv, Instr.mapUpdate, run_underlying ht, Go.MapKept.run_getObj_map hb, run_checkKey hk hik, run_findKey hk h1, h2, h3, run_keyThatStays hik, run_setObj_map _ hb, Result.andThen, World.putObj]
      · intro q hq
        obtain ⟨i', hi'⟩ := List.mem_iff_getElem?.1 hq
        rw [Array.getElem?_toList, Array.getElem?_modify] at hi'
        by_cases hj : j = i'
        · subst hj
          rw [if_pos rfl, h2] at hi'
          cases hi'
          exact ⟨th, y, rfl, rfl, by simp⟩
        · rw [if_neg hj] at hi'
          obtain ⟨a, b, e1, e2, e3⟩ := hM.2.1 q (List.mem_of_getElem? (by rw [Array.getElem?_toList]; exact hi'))
          refine ⟨a, b, e1, e2, ?_⟩
          have : a ≠ th := fun e => by
            subst e
            have hnd := hM.1.2.2
            have l1 : (es.toList.map (·.key))[j]? = some (.int .i64 a) := by rw [List.getElem?_map, Array.getElem?_toList, h2]; exact congrArg some h3
            have l2 : (es.toList.map (·.key))[i']? = some (.int .i64 a) := by rw [List.getElem?_map, Array.getElem?_toList, hi']; exact congrArg some e1
            have hjl := (List.getElem?_eq_some_iff.1 l1).1
            exact hj ((List.getElem?_inj hjl hnd).1 (l1.trans l2.symm))
          simp [this, e3]
      · intro a b hab
        have hin : ∃ q ∈ es.toList, q.key = .int .i64 a := by
          by_cases ha : a = th
          · subst ha; exact ⟨e', List.mem_of_getElem? (by rw [Array.getElem?_toList]; exact h2), h3⟩
          · simp only [ha, if_false] at hab
            exact hM.2.2 a b hab
        obtain ⟨q, hq, e1⟩ := hin
        have hmk := modify_keys j (fun q => { q with key := .int .i64 th, val := c y }) hkey
        have : (.int .i64 a : Value) ∈ (es.modify j fun q => { q with key := .int .i64 th, val := c y }).toList.map (·.key) := by rw [hmk]; exact List.mem_map.2 ⟨q, hq, e1⟩
        obtain ⟨q', hq', e2⟩ := List.mem_map.1 this
        exact ⟨q', hq', e2⟩
  obtain ⟨es', clock', hr, hM'⟩ := key
  unfold Oper.wp
  rw [eval_fr, hr]
  refine ⟨F, by rw [hd]; rfl, h _ _ ⟨es', clock', rfl, hM'⟩ (hS.turn i hi rfl (Turn.put _ _ _) (hob.put _ rfl))⟩
end
end K
end Go.Proofs.Ytnehocjmgnhhhaa
