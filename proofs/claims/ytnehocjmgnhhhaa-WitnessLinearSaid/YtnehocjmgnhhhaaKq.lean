import Derived.Test.YtnehocjmgnhhhaaKm
import Derived.Deep.Slices
import Derived.Deep.Fields
import Derived.ChangeSame
import Derived.OpenShut
import Derived.Lib.AppendZeros
/- A slice that came in as an argument, opened to a row of values of one element kind. -/
namespace Go.Proofs.Ytnehocjmgnhhhaa
open Go.RowKit Go.ChangeShapes Go.WideShapes Go.Deep
set_option linter.unusedVariables false
namespace K
section
variable {H : Type} {enc : TypeId × Value → H} {P : Program} {w : World} {base : Nat} {spare : Nat → Bool} {held : Bool}
theorem choose_list {α : Type} (d : α) {m : Nat} {p : Nat → α → Prop} (h : ∀ i, i < m → ∃ y, p i y) : ∃ l : List α, l.length = m ∧ ∀ i, i < m → p i (l.getD i d) := by
  induction m with
  | zero => exact ⟨[], rfl, fun i h => by omega⟩
  | succ m ih =>
    obtain ⟨l, hl, hp⟩ := ih fun i hi => h i (by omega)
    obtain ⟨y, hy⟩ := h m (by omega)
    refine ⟨l ++ [y], by rw [List.length_append, hl]; rfl, fun i hi => ?_⟩
    by_cases hm : i < m
    · rw [List.getD_eq_getElem?_getD, List.getElem?_append_left (by omega), ← List.getD_eq_getElem?_getD]; exact hp i hm
    · obtain rfl : i = m := by omega
      rw [List.getD_eq_getElem?_getD, List.getElem?_append_right (by omega), hl, Nat.sub_self]
      exact hy
/-- a cell at a place with a spot is none -/
theorem spot_none {a : Addr} {v : Value} (h : w.cell? (a.add 0) = some v) : a.spot = none := by
  unfold Addr.add at h
  rw [if_pos rfl] at h
  unfold World.cell? at h
  split at h
  · cases hx : a.spot with
    | none => rfl
    | some _ => simp [hx] at h
  · cases h
theorem row_of_trod {α : Type} (c : α → List Value) (d : α) (good : α → Prop) {size : Nat} {t e : TypeId} {a : Option Addr} {len cap : Nat} {D : DataW H} {p : List MemPlace} (ht : P.underlying t = some (.slice e)) (hC : P.cellsOf e = size) (h0 : 0 < size)
    (hdec : ∀ (cs : List Value) n x, DataW.trod enc P w base spare held n e cs = some x → ∃ y, cs = c y ∧ good y) (h : DataW.Trod enc P w base spare held t (.slice a len cap) D p) :
    ∃ l : List α, l.length = len ∧ RowE w a len size (fun i => c (l.getD i d)) ∧ (∀ i, i < len → good (l.getD i d)) ∧ len ≤ 9223372036854775807 ∧ len ≤ cap := by
  obtain ⟨fuel, hf⟩ := h
  rcases open_slice ht hf with ⟨hcs, _⟩ | ⟨b, l, cp, m, n, Dd, Pl, hcs, hb, hl, hm, hmm, _, hi⟩
  · simp [Value.cells] at hcs
    obtain ⟨rfl, rfl, rfl⟩ := hcs
    exact ⟨[], rfl, .inl rfl, fun i h => by omega, by omega, by omega⟩
  · simp [Value.cells] at hcs
    obtain ⟨rfl, rfl, rfl⟩ := hcs
    have hlm : len ≤ m := by rw [hmm]; split <;> omega
    obtain ⟨L, hL, hp⟩ := choose_list d (m := len) (p := fun i y => (w.cells? base (b.add (i * P.cellsOf e)) (P.cellsOf e) = some (c y)) ∧ good y) fun i hi' => by
      obtain ⟨cs', h1, h2⟩ := hi i (by omega)
      obtain ⟨y, rfl, hg⟩ := hdec cs' _ _ h2
      exact ⟨y, h1, hg⟩
    refine ⟨L, hL, ?_, fun i h => (hp i h).2, by unfold maxLen at hm; omega, hl⟩
    by_cases hz : len = 0
    · exact .inl hz
    · have hcell : ∀ i, i < len → (c (L.getD i d)).length = size ∧ ∀ j, j < size → w.cell? ((b.add (i * size)).add j) = (c (L.getD i d))[j]? := fun i h => by
        have := World.cells?_some (hp i h).1
        rw [hC] at this
        exact this.2
      obtain ⟨hl0, hc0⟩ := hcell 0 (by omega)
      have hs : b.spot = none := by
        have h1 := hc0 0 h0
        rw [List.getElem?_eq_getElem (by omega), Nat.zero_mul, Go.Deep.add_add] at h1
        exact spot_none h1
      obtain ⟨bb, off, sp⟩ := b
      simp only at hs
      subst hs
      refine .inr ⟨bb, off, rfl, fun i h j v hv => ?_⟩
      obtain ⟨hl1, hc1⟩ := hcell i h
      have hj : j < size := by rw [← hl1]; exact (List.getElem?_eq_some_iff.1 hv).1
      have := hc1 j hj
      rw [Go.Deep.add_add, K.Addr.add_off] at this
      rw [← hv, ← this, Nat.add_assoc]
theorem dec_int {k : IntKind} {t : TypeId} (ht : P.underlying t = some (.int k)) (c : Int → List Value) (hc : ∀ x, c x = [.int k x]) (cs : List Value) (n : Nat) (x : DataW H × List MemPlace) (h : DataW.trod enc P w base spare held n t cs = some x) :
    ∃ y, cs = c y ∧ (Lit.int k y).wf = true := by
  obtain ⟨y, h1, _, h2⟩ := DataW.trod_int ht h
  exact ⟨y, by rw [hc]; exact h1, h2⟩
/-- a part of a struct or an array that is an integer -/
theorem part_int {k : IntKind} {t : TypeId} {cs : List Value} {off n i : Nat} {ys : List (DataW H × List MemPlace)} (ht : P.underlying t = some (.int k)) (hC : P.cellsOf t = 1) (h : DataW.trod enc P w base spare held n t ((cs.drop off).take (P.cellsOf t)) = ys[i]?) (hi : i < ys.length) :
    ∃ y, cs[off]? = some (.int k y) ∧ (Lit.int k y).wf = true := by
  rw [List.getElem?_eq_getElem hi, hC] at h
  obtain ⟨y, h1, _, h2⟩ := DataW.trod_int ht h
  refine ⟨y, ?_, h2⟩
  have := congrArg (fun l => l[0]?) h1
  simpa [List.getElem?_take, List.getElem?_drop] using this
end
end K
end Go.Proofs.Ytnehocjmgnhhhaa

/- Arguments that are structs or arrays by value, opened. -/
namespace Go.Proofs.Ytnehocjmgnhhhaa
open Go.RowKit Go.ChangeShapes Go.WideShapes Go.Deep
set_option linter.unusedVariables false
namespace K
section
variable {H : Type} {enc : TypeId × Value → H} {P : Program} {w : World} {base : Nat} {spare : Nat → Bool} {held : Bool}
theorem okWide_agg {w : World} {r : Reach} {base : Nat} {t : TypeId} {v : Value} (ht : (match P.underlying t with | some (.struct _) | some (.array _ _) => true | _ => false) = true) (h : Value.okWide P w r base t v) : ∃ cs, v = .agg cs := by
  unfold Value.okWide at h
  split at h
  · obtain ⟨cs, h, _⟩ := h; exact ⟨cs, h⟩
  · obtain ⟨cs, h, _⟩ := h; exact ⟨cs, h⟩
  · rename_i h1 h2
    split at ht
    · rename_i fs hf; exact absurd hf (h1 fs)
    · rename_i n e hf; exact absurd hf (h2 n e)
    · cases ht
theorem agg_of_trod {α : Type} (c : α → List Value) (good : α → Prop) {t : TypeId} {v : Value} {D : DataW H} {p : List MemPlace} (hv : ∃ cs, v = .agg cs)
    (hdec : ∀ (cs : List Value) n x, DataW.trod enc P w base spare held n t cs = some x → ∃ y, cs = c y ∧ good y) (h : DataW.Trod enc P w base spare held t v D p) : ∃ y, v = .agg (c y).toArray ∧ good y := by
  obtain ⟨cs, rfl⟩ := hv
  obtain ⟨fuel, hf⟩ := h
  obtain ⟨y, hy, hg⟩ := hdec _ _ _ hf
  refine ⟨y, ?_, hg⟩
  have : cs.toList = c y := hy
  rw [← this]
/-- a part of a struct or an array that is a bool -/
theorem part_bool {t : TypeId} {cs : List Value} {off n i : Nat} {ys : List (DataW H × List MemPlace)} (ht : P.underlying t = some .bool) (hC : P.cellsOf t = 1) (h : DataW.trod enc P w base spare held n t ((cs.drop off).take (P.cellsOf t)) = ys[i]?) (hi : i < ys.length) :
    ∃ y, cs[off]? = some (.bool y) ∧ True := by
  rw [List.getElem?_eq_getElem hi, hC] at h
  obtain ⟨y, h1, _⟩ := DataW.trod_bool ht h
  refine ⟨y, ?_, trivial⟩
  have := congrArg (fun l => l[0]?) h1
  simpa [List.getElem?_take, List.getElem?_drop] using this
/-- a part of a part -/
theorem part_sub {cs : List Value} {off size j : Nat} {v : Value} (h : ((cs.drop off).take size)[j]? = some v) : cs[off + j]? = some v := by
  rw [List.getElem?_take] at h
  split at h
  · rwa [List.getElem?_drop] at h
  · cases h
end
end K
end Go.Proofs.Ytnehocjmgnhhhaa

/- More operations for the step logic: parts of slices, capacities, rows of zeros; code in a scope. -/
namespace Go.Proofs.Ytnehocjmgnhhhaa
open Go.RowKit
namespace K
section
variable {ρ : Option Nat} {P : Program} {n : Nat} {Q : Exit → Fr → World → Prop} {F : Fr} {w : World}
/-! ### Scopes and labels -/
def sco (Q : Exit → Fr → World → Prop) : Exit → Fr → World → Prop
  | .goto _, _, _ => False
  | e, F, w => Q e F w
theorem stepR_scope {b : Frame} {a : Act} {c : Code} {k : List Item} {cs : List Frame} : step P (lone (b.atR a (.code (.scope c) :: k)) cs w) = .next (lone (b.atR a (.code c :: .inScope c :: k)) cs w) :=
  step_lone_go (by simp [stepG, stepG.exec, Frame.atR])
theorem stepR_inScope {b : Frame} {a : Act} {c : Code} {k : List Item} {cs : List Frame} : step P (lone (b.atR a (.inScope c :: k)) cs w) = .next (lone (b.atR a k) cs w) :=
  step_lone_go (by simp [stepG, stepG.exec, Frame.atR])
theorem KW.scope {c : Code} (h : KW ρ P n c (sco Q) F w) : KW ρ P n (.scope c) Q F w := by
  intro b k cs hro hb hroom
  obtain ⟨e, a, w', hq, harr⟩ := h b (.inScope c :: k) cs hro hb hroom
  have hstep : StepsIn (Machine.fenced P (fe ρ)) P (lone (b.atR (fr n F) (.code (.scope c) :: k)) cs w) (lone (b.atR (fr n F) (.code c :: .inScope c :: k)) cs w) := .one (fenced_calm hb hroom rfl) stepR_scope
  cases e with
  | panic => exact hq.elim
  | outgrown => exact hq.elim
  | goto l => obtain ⟨G, rfl, h⟩ := hq; exact h.elim
  | normal =>
    obtain ⟨G, rfl, h⟩ := hq
    exact ⟨.normal, _, w', ⟨G, rfl, h⟩, StepsIn.trans hstep (StepsIn.trans harr (.one (fenced_calm hb hroom rfl) stepR_inScope))⟩
  | ret => obtain ⟨G, rfl, h⟩ := hq; exact ⟨.ret, _, w', ⟨G, rfl, h⟩, .of_steps hstep harr⟩
  | exit i =>
    obtain ⟨G, rfl, h⟩ := hq
    refine ⟨.exit i, _, w', ⟨G, rfl, h⟩, .of_steps hstep ⟨fun k' hk => harr.1 k' (by simpa [exitTo] using hk), fun hr hk => harr.2 hr (by simpa [exitTo] using hk)⟩⟩
/-! ### Parts of slices -/
/-- where a part of a slice begins -/
def shift (a : Option Addr) (cap l sz : Nat) : Option Addr := if cap = l then a else a.map (·.add (l * sz))
theorem run_sliceBound {k : IntKind} {i : Nat} {y : Nat} {code : BoundsCode} (h : i ≤ y) : (Instr.sliceBound (.int k i) y code).run P w = .ok i w := by
  have h0 : (0 : Int) ≤ i ∧ (i : Int) ≤ y := by omega
  simp [Instr.sliceBound, asIntOf, h0]
theorem QR.slLo {o : Oper} {t e : TypeId} {x l : Operand} {a : Option Addr} {m cap k size : Nat} {kd : IntKind} (i : Nat) (ho : o.op = .slice t x (some l) none none) (hx : ev n F x = .slice a m cap) (hl : ev n F l = .int kd i)
    (ht : P.underlying t = some (.slice e)) (hs : (P.info? e).map (·.size) = some size) (hi : i ≤ m) (hk : m - i = k) : QR P n F o (.slice (shift a cap i size) k (cap - i)) w := by
  obtain ⟨inf, hinf, hsz⟩ := Option.map_eq_some_iff.1 hs
  subst hk
  unfold QR execOp
  rw [ho]
  simp only [Option.map_some, Option.map_none, Instr.sliceAt, Sem.run_bind, run_underlying ht, Result.andThen_ok, Instr.slice, hx, hl, Instr.sliceBounds, Sem.run_pure, run_sliceBound hi, sizeOf, typeInfo, hinf, hsz, shift, Option.isSome_none, Bool.false_eq_true, if_false]
  simp [hinf, hsz]
theorem QR.slHi {o : Oper} {t e : TypeId} {x h : Operand} {a : Option Addr} {m cap size : Nat} {kd : IntKind} (i : Nat) (ho : o.op = .slice t x none (some h) none) (hx : ev n F x = .slice a m cap) (hh : ev n F h = .int kd i)
    (ht : P.underlying t = some (.slice e)) (hs : (P.info? e).map (·.size) = some size) (hi : i ≤ cap) : QR P n F o (.slice a i cap) w := by
  obtain ⟨inf, hinf, hsz⟩ := Option.map_eq_some_iff.1 hs
  unfold QR execOp
  rw [ho]
  simp only [Option.map_some, Option.map_none, Instr.sliceAt, Sem.run_bind, run_underlying ht, Result.andThen_ok, Instr.slice, hx, hh, Instr.sliceBounds, Sem.run_pure, run_sliceBound hi, sizeOf, typeInfo, hinf, hsz]
  cases a <;> simp [hinf, hsz, Addr.add]
theorem RowE.part {a : Option Addr} {m cap sz : Nat} {g : Nat → List Value} (h : RowE w a m sz g) (i k : Nat) (hi : i + k ≤ m) (hc : m ≤ cap) : RowE w (shift a cap i sz) k sz (fun j => g (i + j)) := by
  by_cases hk : k = 0
  · exact .inl hk
  · obtain ⟨b, off, rfl, hcell⟩ := h.at_ (by omega)
    have hne : ¬ cap = i := by omega
    refine .inr ⟨b, off + i * sz, ?_, fun j hj q v hv => ?_⟩
    · unfold shift
      rw [if_neg hne]
      simp only [Option.map_some]
      rw [K.Addr.add_off]
    · have := hcell (i + j) (by omega) q v hv
      rw [← this]
      congr 2
      rw [Nat.add_mul]; omega
theorem RowE.drop {α : Type} {c : α → List Value} {d : α} {L : List α} {a : Option Addr} {cap sz : Nat} (h : RowE w a L.length sz (fun i => c (L.getD i d))) (i : Nat) (hi : i ≤ L.length) (hc : L.length ≤ cap) :
    RowE w (shift a cap i sz) (L.drop i).length sz (fun j => c ((L.drop i).getD j d)) := by
  have := h.part i (L.drop i).length (by rw [List.length_drop]; omega) hc
  refine this.congr fun j hj => ?_
  show c _ = c _
  rw [List.getD_eq_getElem?_getD, List.getD_eq_getElem?_getD, List.getElem?_drop]
theorem RowE.take {α : Type} {c : α → List Value} {d : α} {L : List α} {a : Option Addr} {sz : Nat} (h : RowE w a L.length sz (fun i => c (L.getD i d))) (i : Nat) (hi : i ≤ L.length) :
    RowE w a (L.take i).length sz (fun j => c ((L.take i).getD j d)) := by
  have hl : (L.take i).length = i := by rw [List.length_take]; omega
  by_cases h0 : i = 0
  · exact .inl (by omega)
  · obtain ⟨b, off, rfl, hcell⟩ := h.at_ (by omega)
    refine .inr ⟨b, off, rfl, fun j hj q v hv => hcell j (by omega) q v ?_⟩
    rw [← hv]
    show (c _)[q]? = (c _)[q]?
    rw [List.getD_eq_getElem?_getD, List.getD_eq_getElem?_getD, List.getElem?_take, if_pos (by omega)]
theorem QR.cap {o : Oper} {t e : TypeId} {x : Operand} {a : Option Addr} {m c : Nat} (ho : o.op = .call { callee := .builtin .cap, args := #[x], argTypes := #[t] }) (hx : ev n F x = .slice a m c) (ht : P.underlying t = some (.slice e)) : QR P n F o (.int .i64 c) w := by
  unfold QR execOp
  rw [ho]
  simp [resolve, invoke, builtin, Builtin.cap_, hx, run_underlying ht, goInt]
theorem zero_flat {α : Type} (c : α → List Value) (zz : α) (z : Array Value) (hz : z.toList = c zz) (n : Nat) : ((Array.range (n * z.size)).map fun i => z[i % z.size]!).toList = (List.replicate n zz).flatMap c := by
  have hs : z.size = (c zz).length := by rw [← hz]; simp
  induction n with
  | zero => simp
  | succ n ih =>
    rw [List.replicate_succ', List.flatMap_append, ← ih, List.flatMap_singleton]
    rw [Nat.add_mul, Nat.one_mul]
    apply List.ext_getElem?
    intro i
    simp only [Array.toList_map, Array.toList_range, List.getElem?_map]
    by_cases h : i < n * z.size
    · rw [List.getElem?_append_left (by simpa using h)]
      simp [List.getElem?_range, h, show i < n * z.size + z.size by omega]
    · rw [List.getElem?_append_right (by simpa using Nat.le_of_not_lt h)]
      simp only [List.length_map, List.length_range]
      by_cases h2 : i < n * z.size + z.size
      · have hm : i % z.size = i - n * z.size := by
          have : i = i - n * z.size + n * z.size := by omega
          rw [this, Nat.add_mul_mod_self_right, Nat.mod_eq_of_lt (by omega)]; omega
        rw [List.getElem?_range h2]
        simp only [Option.map_some, hm]
        rw [← hz, Array.getElem?_toList]
        have h3 : i - n * z.size < z.size := by omega
        simp [h3]
      · rw [List.getElem?_eq_none (by simp; omega), List.getElem?_eq_none (by rw [← hs]; omega)]
        rfl
/-! ### Loops that are unrolled: so many rounds that go on -/
/-! ### More parts of slices -/
/-! ### Two new blocks, in either order -/
end
end K
end Go.Proofs.Ytnehocjmgnhhhaa
