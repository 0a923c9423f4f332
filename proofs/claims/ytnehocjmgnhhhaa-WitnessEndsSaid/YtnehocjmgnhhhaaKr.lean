import Derived.Test.YtnehocjmgnhhhaaKm
import Derived.Deep.Slices
import Derived.Deep.Fields
import Derived.ChangeSame
import Derived.OpenShut
import Derived.Lib.AppendZeros
/- A slice that came in as an argument, opened to a row of values of one element kind. -/
namespace Go.Proofs.Ytnehocjmgnhhhaa
open Go.RowKit Go.ChangeShapes Go.WideShapes Go.Deep
set_option linter.unusedVariables false
namespace K
section
variable {H : Type} {enc : TypeId × Value → H} {P : Program} {w : World} {base : Nat} {spare : Nat → Bool} {held : Bool}
theorem choose_list {α : Type} (d : α) {m : Nat} {p : Nat → α → Prop} (h : ∀ i, i < m → ∃ y, p i y) : ∃ l : List α, l.length = m ∧ ∀ i, i < m → p i (l.getD i d) := by
  induction m with
  | zero => exact ⟨[], rfl, fun i h => by omega⟩
  | succ m ih =>
    obtain ⟨l, hl, hp⟩ := ih fun i hi => h i (by omega)
    obtain ⟨y, hy⟩ := h m (by omega)
    refine ⟨l ++ [y], by rw [List.length_append, hl]; rfl, fun i hi => ?_⟩
    by_cases hm : i < m
    · rw [List.getD_eq_getElem?_getD, List.getElem?_append_left (by omega), ← List.getD_eq_getElem?_getD]; exact hp i hm
    · obtain rfl : i = m := by omega
      rw [List.getD_eq_getElem?_getD, List.getElem?_append_right (by omega), hl, Nat.sub_self]
      exact hy
theorem spot_none {a : Addr} {v : Value} (h : w.cell? (a.add 0) = some v) : a.spot = none := by
  unfold Addr.add at h
  rw [if_pos rfl] at h
  unfold World.cell? at h
  split at h
  · cases hx : a.spot with
    | none => rfl
    | some _ => simp [hx] at h
  · cases h
theorem row_of_trod {α : Type} (c : α → List Value) (d : α) (good : α → Prop) {size : Nat} {t e : TypeId} {a : Option Addr} {len cap : Nat} {D : DataW H} {p : List MemPlace} (ht : P.underlying t = some (.slice e)) (hC : P.cellsOf e = size) (h0 : 0 < size)
    (hdec : ∀ (cs : List Value) n x, DataW.trod enc P w base spare held n e cs = some x → ∃ y, cs = c y ∧ good y) (h : DataW.Trod enc P w base spare held t (.slice a len cap) D p) :
    ∃ l : List α, l.length = len ∧ RowE w a len size (fun i => c (l.getD i d)) ∧ (∀ i, i < len → good (l.getD i d)) ∧ len ≤ 9223372036854775807 ∧ len ≤ cap := by
  obtain ⟨fuel, hf⟩ := h
  rcases open_slice ht hf with ⟨hcs, _⟩ | ⟨b, l, cp, m, n, Dd, Pl, hcs, hb, hl, hm, hmm, _, hi⟩
  · simp [Value.cells] at hcs
    obtain ⟨rfl, rfl, rfl⟩ := hcs
    exact ⟨[], rfl, .inl rfl, fun i h => by omega, by omega, by omega⟩
  · simp [Value.cells] at hcs
    obtain ⟨rfl, rfl, rfl⟩ := hcs
    have hlm : len ≤ m := by rw [hmm]; split <;> omega
    obtain ⟨L, hL, hp⟩ := choose_list d (m := len) (p := fun i y => (w.cells? base (b.add (i * P.cellsOf e)) (P.cellsOf e) = some (c y)) ∧ good y) fun i hi' => by
      obtain ⟨cs', h1, h2⟩ := hi i (by omega)
      obtain ⟨y, rfl, hg⟩ := hdec cs' _ _ h2
      exact ⟨y, h1, hg⟩
    refine ⟨L, hL, ?_, fun i h => (hp i h).2, by unfold maxLen at hm; omega, hl⟩
    by_cases hz : len = 0
    · exact .inl hz
    · have hcell : ∀ i, i < len → (c (L.getD i d)).length = size ∧ ∀ j, j < size → w.cell? ((b.add (i * size)).add j) = (c (L.getD i d))[j]? := fun i h => by
        have := World.cells?_some (hp i h).1
        rw [hC] at this
        exact this.2
      obtain ⟨hl0, hc0⟩ := hcell 0 (by omega)
      have hs : b.spot = none := by
        have h1 := hc0 0 h0
        rw [List.getElem?_eq_getElem (by omega), Nat.zero_mul, Go.Deep.add_add] at h1
        exact spot_none h1
      obtain ⟨bb, off, sp⟩ := b
      simp only at hs
      subst hs
      refine .inr ⟨bb, off, rfl, fun i h j v hv => ?_⟩
      obtain ⟨hl1, hc1⟩ := hcell i h
      have hj : j < size := by rw [← hl1]; exact (List.getElem?_eq_some_iff.1 hv).1
      have := hc1 j hj
      rw [Go.Deep.add_add, K.Addr.add_off] at this
      rw [← hv, ← this, Nat.add_assoc]
theorem dec_int {k : IntKind} {t : TypeId} (ht : P.underlying t = some (.int k)) (c : Int → List Value) (hc : ∀ x, c x = [.int k x]) (cs : List Value) (n : Nat) (x : DataW H × List MemPlace) (h : DataW.trod enc P w base spare held n t cs = some x) :
    ∃ y, cs = c y ∧ (Lit.int k y).wf = true := by
  obtain ⟨y, h1, _, h2⟩ := DataW.trod_int ht h
  exact ⟨y, by rw [hc]; exact h1, h2⟩
theorem part_int {k : IntKind} {t : TypeId} {cs : List Value} {off n i : Nat} {ys : List (DataW H × List MemPlace)} (ht : P.underlying t = some (.int k)) (hC : P.cellsOf t = 1) (h : DataW.trod enc P w base spare held n t ((cs.drop off).take (P.cellsOf t)) = ys[i]?) (hi : i < ys.length) :
    ∃ y, cs[off]? = some (.int k y) ∧ (Lit.int k y).wf = true := by
  rw [List.getElem?_eq_getElem hi, hC] at h
  obtain ⟨y, h1, _, h2⟩ := DataW.trod_int ht h
  refine ⟨y, ?_, h2⟩
  have := congrArg (fun l => l[0]?) h1
  simpa [List.getElem?_take, List.getElem?_drop] using this
end
end K
end Go.Proofs.Ytnehocjmgnhhhaa

/- Arguments that are structs or arrays by value, opened. -/
namespace Go.Proofs.Ytnehocjmgnhhhaa
open Go.RowKit Go.ChangeShapes Go.WideShapes Go.Deep
set_option linter.unusedVariables false
namespace K
section
variable {H : Type} {enc : TypeId × Value → H} {P : Program} {w : World} {base : Nat} {spare : Nat → Bool} {held : Bool}
theorem okWide_agg {w : World} {r : Reach} {base : Nat} {t : TypeId} {v : Value} (ht : (match P.underlying t with | some (.struct _) | some (.array _ _) => true | _ => false) = true) (h : Value.okWide P w r base t v) : ∃ cs, v = .agg cs := by
  unfold Value.okWide at h
  split at h
  · obtain ⟨cs, h, _⟩ := h; exact ⟨cs, h⟩
  · obtain ⟨cs, h, _⟩ := h; exact ⟨cs, h⟩
  · rename_i h1 h2
    split at ht
    · rename_i fs hf; exact absurd hf (h1 fs)
    · rename_i n e hf; exact absurd hf (h2 n e)
    · cases ht
theorem agg_of_trod {α : Type} (c : α → List Value) (good : α → Prop) {t : TypeId} {v : Value} {D : DataW H} {p : List MemPlace} (hv : ∃ cs, v = .agg cs)
    (hdec : ∀ (cs : List Value) n x, DataW.trod enc P w base spare held n t cs = some x → ∃ y, cs = c y ∧ good y) (h : DataW.Trod enc P w base spare held t v D p) : ∃ y, v = .agg (c y).toArray ∧ good y := by
  obtain ⟨cs, rfl⟩ := hv
  obtain ⟨fuel, hf⟩ := h
  obtain ⟨y, hy, hg⟩ := hdec _ _ _ hf
  refine ⟨y, ?_, hg⟩
  have : cs.toList = c y := hy
  rw [← this]
theorem part_bool {t : TypeId} {cs : List Value} {off n i : Nat} {ys : List (DataW H × List MemPlace)} (ht : P.underlying t = some .bool) (hC : P.cellsOf t = 1) (h : DataW.trod enc P w base spare held n t ((cs.drop off).take (P.cellsOf t)) = ys[i]?) (hi : i < ys.length) :
    ∃ y, cs[off]? = some (.bool y) ∧ True := by
  rw [List.getElem?_eq_getElem hi, hC] at h
  obtain ⟨y, h1, _⟩ := DataW.trod_bool ht h
  refine ⟨y, ?_, trivial⟩
  have := congrArg (fun l => l[0]?) h1
  simpa [List.getElem?_take, List.getElem?_drop] using this
theorem part_sub {cs : List Value} {off size j : Nat} {v : Value} (h : ((cs.drop off).take size)[j]? = some v) : cs[off + j]? = some v := by
  rw [List.getElem?_take] at h
  split at h
  · rwa [List.getElem?_drop] at h
  · cases h
end
end K
end Go.Proofs.Ytnehocjmgnhhhaa

/- More operations for the step logic: parts of slices, capacities, rows of zeros; code in a scope. -/
namespace Go.Proofs.Ytnehocjmgnhhhaa
open Go.RowKit
namespace K
section
variable {ρ : Option Nat} {P : Program} {n : Nat} {Q : Exit → Fr → World → Prop} {F : Fr} {w : World}
/-! ### Scopes and labels -/
def sco (Q : Exit → Fr → World → Prop) : Exit → Fr → World → Prop
  | .goto _, _, _ => False
  | e, F, w => Q e F w
theorem stepR_scope {b : Frame} {a : Act} {c : Code} {k : List Item} {cs : List Frame} : step P (lone (b.atR a (.code (.scope c) :: k)) cs w) = .next (lone (b.atR a (.code c :: .inScope c :: k)) cs w) :=
  step_lone_go (by simp [stepG, stepG.exec, Frame.atR])
theorem stepR_inScope {b : Frame} {a : Act} {c : Code} {k : List Item} {cs : List Frame} : step P (lone (b.atR a (.inScope c :: k)) cs w) = .next (lone (b.atR a k) cs w) :=
  step_lone_go (by simp [stepG, stepG.exec, Frame.atR])
theorem KW.scope {c : Code} (h : KW ρ P n c (sco Q) F w) : KW ρ P n (.scope c) Q F w := by
  intro b k cs hro hb hroom
  obtain ⟨e, a, w', hq, harr⟩ := h b (.inScope c :: k) cs hro hb hroom
  have hstep : StepsIn (Machine.fenced P (fe ρ)) P (lone (b.atR (fr n F) (.code (.scope c) :: k)) cs w) (lone (b.atR (fr n F) (.code c :: .inScope c :: k)) cs w) := .one (fenced_calm hb hroom rfl) stepR_scope
  cases e with
  | panic => exact hq.elim
  | outgrown => exact hq.elim
  | goto l => obtain ⟨G, rfl, h⟩ := hq; exact h.elim
  | normal =>
    obtain ⟨G, rfl, h⟩ := hq
    exact ⟨.normal, _, w', ⟨G, rfl, h⟩, StepsIn.trans hstep (StepsIn.trans harr (.one (fenced_calm hb hroom rfl) stepR_inScope))⟩
  | ret => obtain ⟨G, rfl, h⟩ := hq; exact ⟨.ret, _, w', ⟨G, rfl, h⟩, .of_steps hstep harr⟩
  | exit i =>
    obtain ⟨G, rfl, h⟩ := hq
    refine ⟨.exit i, _, w', ⟨G, rfl, h⟩, .of_steps hstep ⟨fun k' hk => harr.1 k' (by simpa [exitTo] using hk), fun hr hk => harr.2 hr (by simpa [exitTo] using hk)⟩⟩
/-! ### Parts of slices -/
def shift (a : Option Addr) (cap l sz : Nat) : Option Addr := if cap = l then a else a.map (·.add (l * sz))
theorem run_sliceBound {k : IntKind} {i : Nat} {y : Nat} {code : BoundsCode} (h : i ≤ y) : (Instr.sliceBound (.int k i) y code).run P w = .ok i w := by
  have h0 : (0 : Int) ≤ i ∧ (i : Int) ≤ y := by omega
  simp [Instr.sliceBound, asIntOf, h0]
theorem QR.slLo {o : Oper} {t e : TypeId} {x l : Operand} {a : Option Addr} {m cap k size : Nat} {kd : IntKind} (i : Nat) (ho : o.op = .slice t x (some l) none none) (hx : ev n F x = .slice a m cap) (hl : ev n F l = .int kd i)
    (ht : P.underlying t = some (.slice e)) (hs : (P.info? e).map (·.size) = some size) (hi : i ≤ m) (hk : m - i = k) : QR P n F o (.slice (shift a cap i size) k (cap - i)) w := by
  obtain ⟨inf, hinf, hsz⟩ := Option.map_eq_some_iff.1 hs
  subst hk
  unfold QR execOp
  rw [ho]
  simp only [Option.map_some, Option.map_none, Instr.sliceAt, Sem.run_bind, run_underlying ht, Result.andThen_ok, Instr.slice, hx, hl, Instr.sliceBounds, Sem.run_pure, run_sliceBound hi, sizeOf, typeInfo, hinf, hsz, shift, Option.isSome_none, Bool.false_eq_true, if_false]
  simp [hinf, hsz]
theorem QR.slHi {o : Oper} {t e : TypeId} {x h : Operand} {a : Option Addr} {m cap size : Nat} {kd : IntKind} (i : Nat) (ho : o.op = .slice t x none (some h) none) (hx : ev n F x = .slice a m cap) (hh : ev n F h = .int kd i)
    (ht : P.underlying t = some (.slice e)) (hs : (P.info? e).map (·.size) = some size) (hi : i ≤ cap) : QR P n F o (.slice a i cap) w := by
  obtain ⟨inf, hinf, hsz⟩ := Option.map_eq_some_iff.1 hs
  unfold QR execOp
  rw [ho]
  simp only [Option.map_some, Option.map_none, Instr.sliceAt, Sem.run_bind, run_underlying ht, Result.andThen_ok, Instr.slice, hx, hh, Instr.sliceBounds, Sem.run_pure, run_sliceBound hi, sizeOf, typeInfo, hinf, hsz]
  cases a <;> simp [hinf, hsz, Addr.add]
theorem RowE.part {a : Option Addr} {m cap sz : Nat} {g : Nat → List Value} (h : RowE w a m sz g) (i k : Nat) (hi : i + k ≤ m) (hc : m ≤ cap) : RowE w (shift a cap i sz) k sz (fun j => g (i + j)) := by
  by_cases hk : k = 0
  · exact .inl hk
  · obtain ⟨b, off, rfl, hcell⟩ := h.at_ (by omega)
    have hne : ¬ cap = i := by omega
    refine .inr ⟨b, off + i * sz, ?_, fun j hj q v hv => ?_⟩
    · unfold shift
      rw [if_neg hne]
      simp only [Option.map_some]
      rw [K.Addr.add_off]
    · have := hcell (i + j) (by omega) q v hv
      rw [← this]
      congr 2
      rw [Nat.add_mul]; omega
theorem RowE.drop {α : Type} {c : α → List Value} {d : α} {L : List α} {a : Option Addr} {cap sz : Nat} (h : RowE w a L.length sz (fun i => c (L.getD i d))) (i : Nat) (hi : i ≤ L.length) (hc : L.length ≤ cap) :
    RowE w (shift a cap i sz) (L.drop i).length sz (fun j => c ((L.drop i).getD j d)) := by
  have := h.part i (L.drop i).length (by rw [List.length_drop]; omega) hc
  refine this.congr fun j hj => ?_
  show c _ = c _
  rw [List.getD_eq_getElem?_getD, List.getD_eq_getElem?_getD, List.getElem?_drop]
theorem RowE.take {α : Type} {c : α → List Value} {d : α} {L : List α} {a : Option Addr} {sz : Nat} (h : RowE w a L.length sz (fun i => c (L.getD i d))) (i : Nat) (hi : i ≤ L.length) :
    RowE w a (L.take i).length sz (fun j => c ((L.take i).getD j d)) := by
  have hl : (L.take i).length = i := by rw [List.length_take]; omega
  by_cases h0 : i = 0
  · exact .inl (by omega)
  · obtain ⟨b, off, rfl, hcell⟩ := h.at_ (by omega)
    refine .inr ⟨b, off, rfl, fun j hj q v hv => hcell j (by omega) q v ?_⟩
    rw [← hv]
    show (c _)[q]? = (c _)[q]?
    rw [List.getD_eq_getElem?_getD, List.getD_eq_getElem?_getD, List.getElem?_take, if_pos (by omega)]
theorem QR.cap {o : Oper} {t e : TypeId} {x : Operand} {a : Option Addr} {m c : Nat} (ho : o.op = .call { callee := .builtin .cap, args := #[x], argTypes := #[t] }) (hx : ev n F x = .slice a m c) (ht : P.underlying t = some (.slice e)) : QR P n F o (.int .i64 c) w := by
  unfold QR execOp
  rw [ho]
  simp [resolve, invoke, builtin, Builtin.cap_, hx, run_underlying ht, goInt]
theorem zero_flat {α : Type} (c : α → List Value) (zz : α) (z : Array Value) (hz : z.toList = c zz) (n : Nat) : ((Array.range (n * z.size)).map fun i => z[i % z.size]!).toList = (List.replicate n zz).flatMap c := by
  have hs : z.size = (c zz).length := by rw [← hz]; simp
  induction n with
  | zero => simp
  | succ n ih =>
    rw [List.replicate_succ', List.flatMap_append, ← ih, List.flatMap_singleton]
    rw [Nat.add_mul, Nat.one_mul]
    apply List.ext_getElem?
    intro i
    simp only [Array.toList_map, Array.toList_range, List.getElem?_map]
    by_cases h : i < n * z.size
    · rw [List.getElem?_append_left (by simpa using h)]
      simp [List.getElem?_range, h, show i < n * z.size + z.size by omega]
    · rw [List.getElem?_append_right (by simpa using Nat.le_of_not_lt h)]
      simp only [List.length_map, List.length_range]
      by_cases h2 : i < n * z.size + z.size
      · have hm : i % z.size = i - n * z.size := by
          have : i = i - n * z.size + n * z.size := by omega
          rw [this, Nat.add_mul_mod_self_right, Nat.mod_eq_of_lt (by omega)]; omega
        rw [List.getElem?_range h2]
        simp only [Option.map_some, hm]
        rw [← hz, Array.getElem?_toList]
        have h3 : i - n * z.size < z.size := by omega
        simp [h3]
      · rw [List.getElem?_eq_none (by simp; omega), List.getElem?_eq_none (by rw [← hs]; omega)]
        rfl
/-! ### Loops that are unrolled: so many rounds that go on -/
def Unr (ρ : Option Nat) (P : Program) (n : Nat) (c : Code) (Q : Exit → Fr → World → Prop) : Nat → Fr → World → Prop
  | 0, F, w => KW ρ P n c (thn (fun _ _ => False) Q) F w
  | k + 1, F, w => KW ρ P n c (thn (Unr ρ P n c Q k) Q) F w
theorem KW.unr {c : Code} (k : Nat) (h : Unr ρ P n c Q k F w) : KW ρ P n (.loop c) Q F w := by
  refine KW.loop (fun m F w => Unr ρ P n c Q m F w) k h ?_
  intro m F w h
  cases m with
  | zero => exact KW.mono h fun e F w h => by cases e <;> first | exact h | exact h.elim
  | succ m => exact KW.mono h fun e F w h => by cases e <;> first | exact h | exact ⟨m, Nat.lt_succ_self m, h⟩
theorem Unr.succ {c : Code} {k : Nat} (h : KW ρ P n c (thn (Unr ρ P n c Q k) Q) F w) : Unr ρ P n c Q (k + 1) F w := h
theorem Unr.zero {c : Code} (h : KW ρ P n c (thn (fun _ _ => False) Q) F w) : Unr ρ P n c Q 0 F w := h
/-! ### More parts of slices -/
/-! ### Two new blocks, in either order -/
end
end K
end Go.Proofs.Ytnehocjmgnhhhaa

/- More of the step logic: results that lie in memory, pointers, arrays. -/
namespace Go.Proofs.Ytnehocjmgnhhhaa
open Go.RowKit
namespace K
section
variable {ρ : Option Nat} {P : Program} {n : Nat} {Q : Exit → Fr → World → Prop} {F : Fr} {w : World}
/-! ### Results -/
theorem lv1 {t : TypeId} {p : Addr} {v : Value} (ha : aggT P t = some false) (hc : w.cell? p = some v) : (loadVar t p).run P w = .ok v w := by
  simp [loadVar, isAgg_run ha, hc]
theorem lvN {t : TypeId} {b off : Nat} (cs : List Value) (ha : aggT P t = some true) (hs : (P.info? t).map (·.size) = some cs.length)
    (hc : ∀ j v, cs[j]? = some v → w.cell? ⟨b, off + j, none⟩ = some v) : (loadVar t ⟨b, off, none⟩).run P w = .ok (.agg cs.toArray) w := by
  obtain ⟨i, hi, hsz⟩ := Option.map_eq_some_iff.1 hs
  have hl := run_loadCells_list (P := P) (w := w) ⟨b, off, none⟩ cs (fun j v hj => by rw [Addr.add_off]; exact hc j v hj)
  simp [loadVar, isAgg_run ha, sizeOf, typeInfo, hi, hsz, hl]
def ResAt (P : Program) (n : Nat) (F : Fr) (w : World) : List ResultVar → List Value → Prop
  | [], [] => True
  | .tmp t :: rs, v :: vs => ev n F (.tmp t) = v ∧ ResAt P n F w rs vs
  | .cell a t :: rs, v :: vs => (∃ p, ev n F (.tmp a) = .pointer (some p) ∧ (loadVar t p).run P w = .ok v w) ∧ ResAt P n F w rs vs
  | _, _ => False
def tupOf : List Value → Value
  | [v] => v
  | vs => .tuple vs.toArray
def rdRes (n : Nat) (F : Fr) : ResultVar → Sem Value
  | .tmp t => pure ((arr n F).getD t undef)
  | .cell a t => do loadVar t (← asAddr ((arr n F).getD a undef))
theorem resAt_run : ∀ (rs : List ResultVar) (vs : List Value), ResAt P n F w rs vs → (rs.mapM (rdRes n F)).run P w = .ok vs w
  | [], [], _ => by simp
  | .tmp t :: rs, v :: vs, h => by
    have ih := resAt_run rs vs h.2
    have h : (arr n F).getD t undef = v := by rw [arr_getD]; exact h.1
    simp only [List.mapM_cons, Sem.run_bind, Sem.run_pure, Result.andThen_ok, ih, h, rdRes]
  | .cell a t :: rs, v :: vs, h => by
    obtain ⟨⟨p, hp, hl⟩, h2⟩ := h
    have ih := resAt_run rs vs h2
    have h : (arr n F).getD a undef = .pointer (some p) := by rw [arr_getD]; exact hp
    have hh : (asAddr (.pointer (some p))).run P w = .ok p w := by simp [asAddr]
    simp only [List.mapM_cons, Sem.run_bind, Sem.run_pure, Result.andThen_ok, ih, h, hh, hl, rdRes]
  | [], _ :: _, h => h.elim
  | .tmp _ :: _, [], h => h.elim
  | .cell _ _ :: _, [], h => h.elim
theorem resAt {fn : Func} {rs : List ResultVar} (vs : List Value) (h : fn.results = rs.toArray) (hr : ResAt P n F w rs vs) : (results fn (arr n F)).run P w = .ok (tupOf vs) w := by
  have h1 := resAt_run rs vs hr
  have h2 : (fn.results.mapM (rdRes n F)).run P w = .ok vs.toArray w := by
    rw [h, List.mapM_toArray]
    simp [h1]
  have h3 : results fn (arr n F) = (do let vs ← fn.results.mapM (rdRes n F); pure (if h : vs.size = 1 then vs[0] else .tuple vs)) := rfl
  rw [h3]
  simp only [Sem.run_bind, h2, Result.andThen_ok, Sem.run_pure]
  cases vs with
  | nil => rfl
  | cons v vs => cases vs <;> rfl
/-! ### append, and where its row lies -/
theorem run_app2 (base : Nat) (t ty e : TypeId) (i : TypeInfo) (z : Value) (size bytes : Nat) (ht : P.underlying t = some (.slice e)) (hi : P.info? e = some i) (hz : i.zero = some z)
    (hsize : i.size = size) (hby : i.bytes = bytes) (hzs : z.cells.size = size) (hsz : 0 < size)
    (v : Value) (m0 : Nat) (xs : List Value) (hown : w.ownsRow base e size v m0 xs)
    (a : Addr) (m c : Nat) (news : List Value) (hl : news.length = m * size) (hnews : ∀ j u, news[j]? = some u → w.cell? (a.add j) = some u) (h1 : ∀ u ∈ news, u.oneCell' = true)
    (h63 : m0 + m ≤ maxLen) (hbytes : (m0 + m) * bytes ≤ 140737488355328) (hbase : base ≤ w.heap.size) :
    ∃ v' w', (Builtin.append_ #[t, t] ty #[v, .slice (some a) m c]).run P w = .ok v' w' ∧ w'.ownsRow base e size v' (m0 + m) (xs ++ news) ∧ w.grownBy w' v.ownBlock ∧
      (v' = .slice none 0 0 ↔ v = .slice none 0 0 ∧ m = 0) ∧ (∀ b, v'.ownBlock = some b → v.ownBlock = some b ∨ w.heap.size ≤ b) := by
  obtain ⟨v', w', hr, h2, h3, h4⟩ := run_append_own (P := P) w base t ty e i z size bytes ht hi hz hsize hby hzs hsz v m0 xs hown a m c news hl hnews h1 h63 hbytes hbase
  refine ⟨v', w', hr, h2, h3, h4, ?_⟩
  intro b hb
  subst hsize hby
  have hsmall : m0 + m ≤ 9223372036854775807 := by simp only [maxLen] at h63; omega
  have fin : ∀ {x : Value} {u : World}, (Builtin.append_ #[t, t] ty #[v, .slice (some a) m c]).run P w = .ok x u → v' = x := fun h => by
    rw [hr] at h; injection h
  rcases hown.2 with ⟨rfl, rfl⟩ | ⟨g, cap, cur, rfl, hbg, hg, hnc, hcm, hcs, htake⟩
  · have hx : xs = [] := List.eq_nil_of_length_eq_zero (by simpa using hown.1)
    subst hx
    by_cases hm : m = 0
    · rw [h4.2 ⟨rfl, hm⟩] at hb; cases hb
    · have hr2 := run_append_nil (P := P) w t ty e i z ht hi hz a m c news hl hnews (by omega) (by omega) (by have hb := hbytes; simp only [Nat.zero_add] at hb; omega)
      rw [fin hr2] at hb
      simp [Value.ownBlock] at hb
      omega
  · by_cases hroom : m0 + m ≤ cap
    · have hfit : m0 * i.size + news.length ≤ cur.size := by rw [hl, hcs, ← Nat.add_mul]; exact Nat.mul_le_mul_right _ hroom
      have hr2 := run_append_room (P := P) w t ty e i ht hi g m0 cap cur hg a m c news hl hnews h1 hroom hfit
      rw [fin hr2] at hb
      exact .inl hb
    · have holds : ∀ j u, xs[j]? = some u → w.cell? ((⟨g, 0, none⟩ : Addr).add j) = some u := hown.cells (g := g) rfl
      have hr2 := run_append_grow (P := P) w t ty e i z ht hi hz ⟨g, 0, none⟩ m0 cap xs hown.1 holds a m c news hl hnews (by omega) (by omega) (growslice_fits (by omega) hbytes)
      rw [fin hr2] at hb
      simp [Value.ownBlock] at hb
      omega
theorem OW.app2 {o : Oper} {dd : Option Nat} {s x : Operand} {t e : TypeId} {base : Nat} {a : Option Addr} {m cap : Nat} {xs : List Value} {b off k c : Nat} {z : Value} {size bytes : Nat} {K : Fr → World → Prop} (hd : o.dst = dd) (news : List Value)
    (ho : o.op = .call { callee := .builtin .append, args := #[s, x], argTypes := #[t, t] }) (hs : ev n F s = .slice a m cap) (hown : Own w base e size a m cap xs) (hx : ev n F x = .slice (some ⟨b, off, none⟩) k c)
    (ht : P.underlying t = some (.slice e)) (hi : (P.info? e).map (fun i => (i.zero, i.size, i.bytes)) = some (some z, size, bytes)) (hz : z.cells.size = size) (hpos : 0 < size)
    (hl : news.length = k * size) (hn : ∀ j u, news[j]? = some u → w.cell? ⟨b, off + j, none⟩ = some u) (h1 : ∀ u ∈ news, u.oneCell' = true)
    (hm : m + k ≤ maxLen) (hb : (m + k) * bytes ≤ 140737488355328) (hbase : base ≤ w.heap.size)
    (h : ∀ a' cap' w', Chg (Ow a) w w' → Own w' base e size a' (m + k) cap' (xs ++ news) → (∀ j, Ow a' j → Ow a j ∨ w.heap.size ≤ j) → K (updo F dd (.slice a' (m + k) cap')) w') : OW P n F o w K := fun hok Q => by
  subst hd
  obtain ⟨i, hi0, hz0, hz1, hz2⟩ := info_parts hi
  obtain ⟨v', w', hr, h2, h3, h4, h5⟩ := run_app2 (P := P) (w := w) base t o.type e i z size bytes ht hi0 hz0 hz1 hz2 hz hpos (.slice a m cap) m xs hown ⟨b, off, none⟩ k c news hl (fun j u hj => by rw [Addr.add_off]; exact hn j u hj) h1 hm hb hbase
  refine Lib.wp_append_run w s x t t ho _ _ (by rw [eval_fr]; exact hs) (by rw [eval_fr]; exact hx) _ _ hr ?_
  have hf : ∃ a' cap', v' = .slice a' (m + k) cap' := by
    rcases h2.2 with ⟨rfl, h⟩ | ⟨g, cap', cur, rfl, _⟩
    · exact ⟨none, 0, by rw [h]⟩
    · exact ⟨_, _, rfl⟩
  obtain ⟨a', cap', rfl⟩ := hf
  refine ⟨_, put_fr n F o.dst _ hok, h a' cap' w' (Chg.grown h3) h2 ?_⟩
  rintro j ⟨p, rfl, rfl⟩
  rcases h5 p.block rfl with h6 | h6
  · refine .inl ?_
    cases a with
    | none => simp [Value.ownBlock] at h6
    | some q => simp [Value.ownBlock] at h6; exact ⟨q, rfl, h6.symm⟩
  · exact .inr h6
end
end K
end Go.Proofs.Ytnehocjmgnhhhaa
