import Derived.Test.YtnehocjmgnhhhaaKm
import Derived.Lib.AppendZeros
/- More operations for the step logic: parts of slices, capacities, rows of zeros; code in a scope. -/
namespace Go.Proofs.Ytnehocjmgnhhhaa
open Go.RowKit
namespace K
section
variable {ρ : Option Nat} {P : Program} {n : Nat} {Q : Exit → Fr → World → Prop} {F : Fr} {w : World}
/-! ### Scopes and labels -/
def sco (Q : Exit → Fr → World → Prop) : Exit → Fr → World → Prop
  | .goto _, _, _ => False
  | e, F, w => Q e F w
theorem stepR_scope {b : Frame} {a : Act} {c : Code} {k : List Item} {cs : List Frame} : step P (lone (b.atR a (.code (.scope c) :: k)) cs w) = .next (lone (b.atR a (.code c :: .inScope c :: k)) cs w) :=
  step_lone_go (by simp [stepG, stepG.exec, Frame.atR])
theorem stepR_inScope {b : Frame} {a : Act} {c : Code} {k : List Item} {cs : List Frame} : step P (lone (b.atR a (.inScope c :: k)) cs w) = .next (lone (b.atR a k) cs w) :=
  step_lone_go (by simp [stepG, stepG.exec, Frame.atR])
theorem KW.scope {c : Code} (h : KW ρ P n c (sco Q) F w) : KW ρ P n (.scope c) Q F w := by
  intro b k cs hro hb hroom
  obtain ⟨e, a, w', hq, harr⟩ := h b (.inScope c :: k) cs hro hb hroom
  have hstep : StepsIn (Machine.fenced P (fe ρ)) P (lone (b.atR (fr n F) (.code (.scope c) :: k)) cs w) (lone (b.atR (fr n F) (.code c :: .inScope c :: k)) cs w) := .one (fenced_calm hb hroom rfl) stepR_scope
  cases e with
  | panic => exact hq.elim
  | outgrown => exact hq.elim
  | goto l => obtain ⟨G, rfl, h⟩ := hq; exact h.elim
  | normal =>
    obtain ⟨G, rfl, h⟩ := hq
    exact ⟨.normal, _, w', ⟨G, rfl, h⟩, StepsIn.trans hstep (StepsIn.trans harr (.one (fenced_calm hb hroom rfl) stepR_inScope))⟩
  | ret => obtain ⟨G, rfl, h⟩ := hq; exact ⟨.ret, _, w', ⟨G, rfl, h⟩, .of_steps hstep harr⟩
  | exit i =>
    obtain ⟨G, rfl, h⟩ := hq
    refine ⟨.exit i, _, w', ⟨G, rfl, h⟩, .of_steps hstep ⟨fun k' hk => harr.1 k' (by simpa [exitTo] using hk), fun hr hk => harr.2 hr (by simpa [exitTo] using hk)⟩⟩
/-! ### Parts of slices -/
/-- where a part of a slice begins -/
def shift (a : Option Addr) (cap l sz : Nat) : Option Addr := if cap = l then a else a.map (·.add (l * sz))
theorem run_sliceBound {k : IntKind} {i : Nat} {y : Nat} {code : BoundsCode} (h : i ≤ y) : (Instr.sliceBound (.int k i) y code).run P w = .ok i w := by
  have h0 : (0 : Int) ≤ i ∧ (i : Int) ≤ y := by omega
  simp [Instr.sliceBound, asIntOf, h0]
theorem QR.slLo {o : Oper} {t e : TypeId} {x l : Operand} {a : Option Addr} {m cap k size : Nat} {kd : IntKind} (i : Nat) (ho : o.op = .slice t x (some l) none none) (hx : ev n F x = .slice a m cap) (hl : ev n F l = .int kd i)
    (ht : P.underlying t = some (.slice e)) (hs : (P.info? e).map (·.size) = some size) (hi : i ≤ m) (hk : m - i = k) : QR P n F o (.slice (shift a cap i size) k (cap - i)) w := by
  obtain ⟨inf, hinf, hsz⟩ := Option.map_eq_some_iff.1 hs
  subst hk
  unfold QR execOp
  rw [ho]
  simp only [Option.map_some, Option.map_none, Instr.sliceAt, Sem.run_bind, run_underlying ht, Result.andThen_ok, Instr.slice, hx, hl, Instr.sliceBounds, Sem.run_pure, run_sliceBound hi, sizeOf, typeInfo, hinf, hsz, shift, Option.isSome_none, Bool.false_eq_true, if_false]
  simp [hinf, hsz]
theorem QR.slHi {o : Oper} {t e : TypeId} {x h : Operand} {a : Option Addr} {m cap size : Nat} {kd : IntKind} (i : Nat) (ho : o.op = .slice t x none (some h) none) (hx : ev n F x = .slice a m cap) (hh : ev n F h = .int kd i)
    (ht : P.underlying t = some (.slice e)) (hs : (P.info? e).map (·.size) = some size) (hi : i ≤ cap) : QR P n F o (.slice a i cap) w := by
  obtain ⟨inf, hinf, hsz⟩ := Option.map_eq_some_iff.1 hs
  unfold QR execOp
  rw [ho]
  simp only [Option.map_some, Option.map_none, Instr.sliceAt, Sem.run_bind, run_underlying ht, Result.andThen_ok, Instr.slice, hx, hh, Instr.sliceBounds, Sem.run_pure, run_sliceBound hi, sizeOf, typeInfo, hinf, hsz]
  cases a <;> simp [hinf, hsz, Addr.add]
theorem RowE.part {a : Option Addr} {m cap sz : Nat} {g : Nat → List Value} (h : RowE w a m sz g) (i k : Nat) (hi : i + k ≤ m) (hc : m ≤ cap) : RowE w (shift a cap i sz) k sz (fun j => g (i + j)) := by
  by_cases hk : k = 0
  · exact .inl hk
  · obtain ⟨b, off, rfl, hcell⟩ := h.at_ (by omega)
    have hne : ¬ cap = i := by omega
    refine .inr ⟨b, off + i * sz, ?_, fun j hj q v hv => ?_⟩
    · unfold shift
      rw [if_neg hne]
      simp only [Option.map_some]
      rw [K.Addr.add_off]
    · have := hcell (i + j) (by omega) q v hv
      rw [← this]
      congr 2
      rw [Nat.add_mul]; omega
theorem RowE.drop {α : Type} {c : α → List Value} {d : α} {L : List α} {a : Option Addr} {cap sz : Nat} (h : RowE w a L.length sz (fun i => c (L.getD i d))) (i : Nat) (hi : i ≤ L.length) (hc : L.length ≤ cap) :
    RowE w (shift a cap i sz) (L.drop i).length sz (fun j => c ((L.drop i).getD j d)) := by
  have := h.part i (L.drop i).length (by rw [List.length_drop]; omega) hc
  refine this.congr fun j hj => ?_
  show c _ = c _
  rw [List.getD_eq_getElem?_getD, List.getD_eq_getElem?_getD, List.getElem?_drop]
theorem RowE.take {α : Type} {c : α → List Value} {d : α} {L : List α} {a : Option Addr} {sz : Nat} (h : RowE w a L.length sz (fun i => c (L.getD i d))) (i : Nat) (hi : i ≤ L.length) :
    RowE w a (L.take i).length sz (fun j => c ((L.take i).getD j d)) := by
  have hl : (L.take i).length = i := by rw [List.length_take]; omega
  by_cases h0 : i = 0
  · exact .inl (by omega)
  · obtain ⟨b, off, rfl, hcell⟩ := h.at_ (by omega)
    refine .inr ⟨b, off, rfl, fun j hj q v hv => hcell j (by omega) q v ?_⟩
    rw [← hv]
    show (c _)[q]? = (c _)[q]?
    rw [List.getD_eq_getElem?_getD, List.getD_eq_getElem?_getD, List.getElem?_take, if_pos (by omega)]
theorem QR.cap {o : Oper} {t e : TypeId} {x : Operand} {a : Option Addr} {m c : Nat} (ho : o.op = .call { callee := .builtin .cap, args := #[x], argTypes := #[t] }) (hx : ev n F x = .slice a m c) (ht : P.underlying t = some (.slice e)) : QR P n F o (.int .i64 c) w := by
  unfold QR execOp
  rw [ho]
  simp [resolve, invoke, builtin, Builtin.cap_, hx, run_underlying ht, goInt]
theorem zero_flat {α : Type} (c : α → List Value) (zz : α) (z : Array Value) (hz : z.toList = c zz) (n : Nat) : ((Array.range (n * z.size)).map fun i => z[i % z.size]!).toList = (List.replicate n zz).flatMap c := by
  have hs : z.size = (c zz).length := by rw [← hz]; simp
  induction n with
  | zero => simp
  | succ n ih =>
    rw [List.replicate_succ', List.flatMap_append, ← ih, List.flatMap_singleton]
    rw [Nat.add_mul, Nat.one_mul]
    apply List.ext_getElem?
    intro i
    simp only [Array.toList_map, Array.toList_range, List.getElem?_map]
    by_cases h : i < n * z.size
    · rw [List.getElem?_append_left (by simpa using h)]
      simp [List.getElem?_range, h, show i < n * z.size + z.size by omega]
    · rw [List.getElem?_append_right (by simpa using Nat.le_of_not_lt h)]
      simp only [List.length_map, List.length_range]
      by_cases h2 : i < n * z.size + z.size
      · have hm : i % z.size = i - n * z.size := by
          have : i = i - n * z.size + n * z.size := by omega
          rw [this, Nat.add_mul_mod_self_right, Nat.mod_eq_of_lt (by omega)]; omega
        rw [List.getElem?_range h2]
        simp only [Option.map_some, hm]
        rw [← hz, Array.getElem?_toList]
        have h3 : i - n * z.size < z.size := by omega
        simp [h3]
      · rw [List.getElem?_eq_none (by simp; omega), List.getElem?_eq_none (by rw [← hs]; omega)]
        rfl
/-! ### Loops that are unrolled: so many rounds that go on -/
/-! ### More parts of slices -/
/-! ### Two new blocks, in either order -/
end
end K
end Go.Proofs.Ytnehocjmgnhhhaa
