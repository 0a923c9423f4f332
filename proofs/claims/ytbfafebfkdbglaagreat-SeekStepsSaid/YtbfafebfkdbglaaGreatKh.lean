/- Groups of memory: 'clear' of a whole row of the call's own. -/
import Derived.Test.YtbfafebfkdbglaaGreatKg
namespace Go.Proofs.YtbfafebfkdbglaaGreat
open Go.RowKit
set_option linter.unusedVariables false
namespace K
section
variable {P : Program} {n : Nat} {F : Fr} {w w0 : World} {ls : List Cs} {K : Fr → World → Prop}
/-- 'clear' of a whole row of the call's own -/
theorem OW.gclr {o : Oper} {dd : Option Nat} {t e : TypeId} {x : Operand} {a : Option Addr} {size N cap c2 : Nat} {z : Value} {ys : List Value} {α : Type} {c : α → List Value} {l : Cs} (i : Nat) (zz : α) (hS : Sat w0 ls w) (how0 : OwnG l e size a N cap ys)
    (h : ∀ w' l', OwnG l' e size a N cap ((List.replicate N zz).flatMap c) → Sat w0 (setn ls i l') w' → K (updo F dd (.tuple #[])) w')
    (ht : P.underlying t = some (.slice e)) (hi : (P.info? e).map (fun i => (i.zero, i.size)) = some (some z, size)) (hz : z.cells.toList = c zz) (hc : (c zz).length = size) (h1 : ∀ v ∈ z.cells.toList, v.oneCell' = true)
    (hn : nth ls i = l := by rfl) (hd : o.dst = dd := by rfl) (ho : o.op = .call { callee := .builtin .clear, args := #[x], argTypes := #[t] } := by rfl) (hx : ev n F x = .slice a N c2 := by rfl) : OW P n F o w K := fun hok Q => by
  subst hd
  obtain ⟨inf, hq, hi⟩ := Option.map_eq_some_iff.1 hi
  simp only [Prod.mk.injEq] at hi
  obtain ⟨hi1, hi2⟩ := hi
  have hzs : z.cells.size = size := by rw [← hc, ← hz]; simp
  have how := hS.ownr i hn how0
  have fin : ∀ w', (Builtin.clear_ #[t] o.type #[.slice a N c2]).run P w = .ok (.tuple #[]) w' → (Chg (Ow a) w w') →
      Own w' w0.heap.size e size a N cap ((List.replicate N zz).flatMap c) → Oper.wp P o (fr n F) w (fun a w' => ∃ G, a = fr n G ∧ K G w') Q := by
    intro w' hrun e1 e3
    unfold Oper.wp
    rw [eval_fr]
    have hrun2 : (execOp (ev n F) o).run P w = .ok (.value (.tuple #[])) w' := by
      unfold execOp
      rw [ho]
      simp [resolve, invoke, builtin, hx, hrun]
    rw [hrun2]
    obtain ⟨l', h2, h3⟩ := hS.rput i hn how0 e1 e3 (fun j hj => .inl hj)
    exact ⟨_, put_fr n F o.dst _ hok, h w' l' h2 h3⟩
  rcases Nat.eq_zero_or_pos N with h0 | hN
  · subst h0
    refine fin w ?_ ((Chg.refl w).mono fun _ _ h => h.elim) ?_
    · cases a <;> simp [Builtin.clear_, run_underlying ht]
    · have : ys = [] := List.eq_nil_of_length_eq_zero (by rw [how.1]; simp)
      subst this; exact how
  · obtain ⟨g, rfl⟩ := how0.some_ (by have := how0.le; omega)
    obtain ⟨cur, h2, h3, h4, h5, h6, h7⟩ := how.cur
    have hle : N * size ≤ cap * size := Nat.mul_le_mul_right _ h4
    have hst := run_storeCells_at P g 0 e (Builtin.zeroCells z.cells N).toList 0 cur w h3 (by rw [zc_size, hzs, h6]; omega) (zc_one h1 N)
    rw [Nat.add_zero, zc_size, hzs] at hst
    have hcells : (Builtin.zeroCells z.cells N).toList = (List.replicate N zz).flatMap c := by
      unfold Builtin.zeroCells
      rw [zero_flat c zz z.cells hz]
    refine fin (w.setRow g (cur.toList.take 0 ++ (Builtin.zeroCells z.cells N).toList ++ cur.toList.drop (0 + N * size)).toArray) ?_ ((setRow_chg w g _).mono fun k _ hk => ⟨_, rfl, hk⟩) ?_
    · cases N with
      | zero => omega
      | succ k => simp [Builtin.clear_, run_underlying ht, zeroValue, typeInfo, hq, hi1, hst]
    · refine Own.of_cur (setRow_heap w g cur _ e _ h3) h2 h4 h5 ?_ ?_
      · simp only [List.size_toArray, List.length_append, List.length_take, List.length_drop, Array.length_toList, zc_size', hzs, h6]
        omega
      · simp only [List.toList_toArray]
        rw [List.take_zero, List.nil_append, hcells, List.take_append_of_le_length (by simp [List.length_flatMap, hc]), List.take_of_length_le (by simp [List.length_flatMap, hc])]
theorem OW.gcallw {o : Oper} {dd : Option Nat} {f : FuncId} {x : Operand} {l : List Operand} {ats : Array TypeId} {R : Value → List Cs → Prop} {v1 v2 : List Value} (hS : Sat w0 ls w) (is rest : List Nat) (vs : List Value) (hk : GC P w0 f vs.toArray (pick is ls) R)
    (h : ∀ v post w', R v post → Sat w0 (post ++ pick rest ls) w' → K (updo F dd v) w') (hd : o.dst = dd := by rfl) (ho : o.op = .call { callee := .value x, args := l.toArray, argTypes := ats } := by rfl) (hx : ev n F x = .func (.func f) v1.toArray v2.toArray := by rfl)
    (hv : v1 ++ l.map (ev n F) ++ v2 = vs := by rfl) (hf : callable P f = true := by kernel_rfl) (hp : (is ++ rest).Nodup := by decide) : OW P n F o w K :=
  OW.gcallv hS is rest vs hk h hx hd ho hv hf hp
/-- a contract on one of three groups that are held as one -/
theorem GC.in3 {f : FuncId} {args : Array Value} {A B md : Cs} {R : Value → List Cs → Prop} (h : GC P w0 f args [md] R) (hn : ∀ v post, R v post → ∃ md' rest, post = md' :: rest) :
    GC P w0 f args [[A, B, md].flatten] (fun v post => ∃ md' rest, R v (md' :: rest) ∧ post = [A, B, md'].flatten :: rest) := fun fr w hS => by
  have h1 : Sat w0 [A, B, md, fr] w := hS.of (by simp)
  have h2 : Sat w0 ([md] ++ [[A, B, fr].flatten]) w := (h1.pick [2, 0, 1, 3]).of (by simp [pick, nth])
  refine KC.mono (h _ w h2) ?_
  rintro v w' ⟨post, hR, hS'⟩
  obtain ⟨md', rest, rfl⟩ := hn v post hR
  have h3 : Sat w0 [md', rest.flatten, A, B, fr] w' := hS'.of (by simp)
  exact ⟨_, ⟨md', rest, hR, rfl⟩, (h3.pick [2, 3, 0, 1, 4]).of (by simp [pick, nth])⟩
end
end K
end Go.Proofs.YtbfafebfkdbglaaGreat
