import Derived.Test.YtnehocjmgnhhhaaDoorKm
import Derived.Lib.AppendZeros
/- More operations for the step logic: parts of slices, capacities, rows of zeros; code in a scope. -/
namespace Go.Proofs.YtnehocjmgnhhhaaDoor
open Go.RowKit
namespace K
section
variable {ρ : Option Nat} {P : Program} {n : Nat} {Q : Exit → Fr → World → Prop} {F : Fr} {w : World}
/-! ### Scopes and labels -/
def sco (Q : Exit → Fr → World → Prop) : Exit → Fr → World → Prop
  | .goto _, _, _ => False
  | e, F, w => Q e F w
theorem stepR_scope {b : Frame} {a : Act} {c : Code} {k : List Item} {cs : List Frame} : step P (lone (b.atR a (.code (.scope c) :: k)) cs w) = .next (lone (b.atR a (.code c :: .inScope c :: k)) cs w) :=
  step_lone_go (by simp [stepG, stepG.exec, Frame.atR])
theorem stepR_inScope {b : Frame} {a : Act} {c : Code} {k : List Item} {cs : List Frame} : step P (lone (b.atR a (.inScope c :: k)) cs w) = .next (lone (b.atR a k) cs w) :=
  step_lone_go (by simp [stepG, stepG.exec, Frame.atR])
theorem KW.scope {c : Code} (h : KW ρ P n c (sco Q) F w) : KW ρ P n (.scope c) Q F w := by
  intro b k cs hro hb hroom
  obtain ⟨e, a, w', hq, harr⟩ := h b (.inScope c :: k) cs hro hb hroom
  have hstep : StepsIn (Machine.fenced P (fe ρ)) P (lone (b.atR (fr n F) (.code (.scope c) :: k)) cs w) (lone (b.atR (fr n F) (.code c :: .inScope c :: k)) cs w) := .one (fenced_calm hb hroom rfl) stepR_scope
  cases e with
  | panic => exact hq.elim
  | outgrown => exact hq.elim
  | goto l => obtain ⟨G, rfl, h⟩ := hq; exact h.elim
  | normal =>
    obtain ⟨G, rfl, h⟩ := hq
    exact ⟨.normal, _, w', ⟨G, rfl, h⟩, StepsIn.trans hstep (StepsIn.trans harr (.one (fenced_calm hb hroom rfl) stepR_inScope))⟩
  | ret => obtain ⟨G, rfl, h⟩ := hq; exact ⟨.ret, _, w', ⟨G, rfl, h⟩, .of_steps hstep harr⟩
  | exit i =>
    obtain ⟨G, rfl, h⟩ := hq
    refine ⟨.exit i, _, w', ⟨G, rfl, h⟩, .of_steps hstep ⟨fun k' hk => harr.1 k' (by simpa [exitTo] using hk), fun hr hk => harr.2 hr (by simpa [exitTo] using hk)⟩⟩
/-! ### Parts of slices -/
/-- where a part of a slice begins -/
def shift (a : Option Addr) (cap l sz : Nat) : Option Addr := if cap = l then a else a.map (·.add (l * sz))
theorem run_sliceBound {k : IntKind} {i : Nat} {y : Nat} {code : BoundsCode} (h : i ≤ y) : (Instr.sliceBound (.int k i) y code).run P w = .ok i w := by
  have h0 : (0 : Int) ≤ i ∧ (i : Int) ≤ y := by omega
  simp [Instr.sliceBound, asIntOf, h0]
theorem QR.slLo {o : Oper} {t e : TypeId} {x l : Operand} {a : Option Addr} {m cap k size : Nat} {kd : IntKind} (i : Nat) (ho : o.op = .slice t x (some l) none none) (hx : ev n F x = .slice a m cap) (hl : ev n F l = .int kd i)
    (ht : P.underlying t = some (.slice e)) (hs : (P.info? e).map (·.size) = some size) (hi : i ≤ m) (hk : m - i = k) : QR P n F o (.slice (shift a cap i size) k (cap - i)) w := by
  obtain ⟨inf, hinf, hsz⟩ := Option.map_eq_some_iff.1 hs
  subst hk
  unfold QR execOp
  rw [ho]
  simp only [Option.map_some, Option.map_none, Instr.sliceAt, Sem.run_bind, run_underlying ht, Result.andThen_ok, Instr.slice, hx, hl, Instr.sliceBounds, Sem.run_pure, run_sliceBound hi, sizeOf, typeInfo, hinf, hsz, shift, Option.isSome_none, Bool.false_eq_true, if_false]
  simp [hinf, hsz]
theorem QR.slHi {o : Oper} {t e : TypeId} {x h : Operand} {a : Option Addr} {m cap size : Nat} {kd : IntKind} (i : Nat) (ho : o.op = .slice t x none (some h) none) (hx : ev n F x = .slice a m cap) (hh : ev n F h = .int kd i)
    (ht : P.underlying t = some (.slice e)) (hs : (P.info? e).map (·.size) = some size) (hi : i ≤ cap) : QR P n F o (.slice a i cap) w := by
  obtain ⟨inf, hinf, hsz⟩ := Option.map_eq_some_iff.1 hs
  unfold QR execOp
  rw [ho]
  simp only [Option.map_some, Option.map_none, Instr.sliceAt, Sem.run_bind, run_underlying ht, Result.andThen_ok, Instr.slice, hx, hh, Instr.sliceBounds, Sem.run_pure, run_sliceBound hi, sizeOf, typeInfo, hinf, hsz]
  cases a <;> simp [hinf, hsz, Addr.add]
theorem RowE.part {a : Option Addr} {m cap sz : Nat} {g : Nat → List Value} (h : RowE w a m sz g) (i k : Nat) (hi : i + k ≤ m) (hc : m ≤ cap) : RowE w (shift a cap i sz) k sz (fun j => g (i + j)) := by
  by_cases hk : k = 0
  · exact .inl hk
  · obtain ⟨b, off, rfl, hcell⟩ := h.at_ (by omega)
    have hne : ¬ cap = i := by omega
    refine .inr ⟨b, off + i * sz, ?_, fun j hj q v hv => ?_⟩
    · unfold shift
      rw [if_neg hne]
      simp only [Option.map_some]
      rw [K.Addr.add_off]
    · have := hcell (i + j) (by omega) q v hv
      rw [← this]
      congr 2
      rw [Nat.add_mul]; omega
theorem RowE.drop {α : Type} {c : α → List Value} {d : α} {L : List α} {a : Option Addr} {cap sz : Nat} (h : RowE w a L.length sz (fun i => c (L.getD i d))) (i : Nat) (hi : i ≤ L.length) (hc : L.length ≤ cap) :
    RowE w (shift a cap i sz) (L.drop i).length sz (fun j => c ((L.drop i).getD j d)) := by
  have := h.part i (L.drop i).length (by rw [List.length_drop]; omega) hc
  refine this.congr fun j hj => ?_
  show c _ = c _
  rw [List.getD_eq_getElem?_getD, List.getD_eq_getElem?_getD, List.getElem?_drop]
theorem RowE.take {α : Type} {c : α → List Value} {d : α} {L : List α} {a : Option Addr} {sz : Nat} (h : RowE w a L.length sz (fun i => c (L.getD i d))) (i : Nat) (hi : i ≤ L.length) :
    RowE w a (L.take i).length sz (fun j => c ((L.take i).getD j d)) := by
  have hl : (L.take i).length = i := by rw [List.length_take]; omega
  by_cases h0 : i = 0
  · exact .inl (by omega)
  · obtain ⟨b, off, rfl, hcell⟩ := h.at_ (by omega)
    refine .inr ⟨b, off, rfl, fun j hj q v hv => hcell j (by omega) q v ?_⟩
    rw [← hv]
    show (c _)[q]? = (c _)[q]?
    rw [List.getD_eq_getElem?_getD, List.getD_eq_getElem?_getD, List.getElem?_take, if_pos (by omega)]
theorem Own.take0 {base : Nat} {e : TypeId} {size m cap : Nat} {a : Option Addr} {xs : List Value} (h : Own w base e size a m cap xs) : Own w base e size a 0 cap [] := by
  unfold Own at h ⊢
  refine ⟨by simp, ?_⟩
  rcases h.2 with ⟨h1, h2⟩ | ⟨g, cap', cur, h1, hb, hg, hn, hm, hsz, ht⟩
  · simp only [Value.slice.injEq] at h1
    obtain ⟨rfl, _, rfl⟩ := h1
    exact .inl ⟨rfl, rfl⟩
  · simp only [Value.slice.injEq] at h1
    obtain ⟨rfl, _, rfl⟩ := h1
    exact .inr ⟨g, cap, cur, rfl, hb, hg, Nat.zero_le _, hm, hsz, by simp⟩
theorem QR.cap {o : Oper} {t e : TypeId} {x : Operand} {a : Option Addr} {m c : Nat} (ho : o.op = .call { callee := .builtin .cap, args := #[x], argTypes := #[t] }) (hx : ev n F x = .slice a m c) (ht : P.underlying t = some (.slice e)) : QR P n F o (.int .i64 c) w := by
  unfold QR execOp
  rw [ho]
  simp [resolve, invoke, builtin, Builtin.cap_, hx, run_underlying ht, goInt]
theorem zero_flat {α : Type} (c : α → List Value) (zz : α) (z : Array Value) (hz : z.toList = c zz) (n : Nat) : ((Array.range (n * z.size)).map fun i => z[i % z.size]!).toList = (List.replicate n zz).flatMap c := by
  have hs : z.size = (c zz).length := by rw [← hz]; simp
  induction n with
  | zero => simp
  | succ n ih =>
    rw [List.replicate_succ', List.flatMap_append, ← ih, List.flatMap_singleton]
    rw [Nat.add_mul, Nat.one_mul]
    apply List.ext_getElem?
    intro i
    simp only [Array.toList_map, Array.toList_range, List.getElem?_map]
    by_cases h : i < n * z.size
    · rw [List.getElem?_append_left (by simpa using h)]
      simp [List.getElem?_range, h, show i < n * z.size + z.size by omega]
    · rw [List.getElem?_append_right (by simpa using Nat.le_of_not_lt h)]
      simp only [List.length_map, List.length_range]
      by_cases h2 : i < n * z.size + z.size
      · have hm : i % z.size = i - n * z.size := by
          have : i = i - n * z.size + n * z.size := by omega
          rw [this, Nat.add_mul_mod_self_right, Nat.mod_eq_of_lt (by omega)]; omega
        rw [List.getElem?_range h2]
        simp only [Option.map_some, hm]
        rw [← hz, Array.getElem?_toList]
        have h3 : i - n * z.size < z.size := by omega
        simp [h3]
      · rw [List.getElem?_eq_none (by simp; omega), List.getElem?_eq_none (by rw [← hs]; omega)]
        rfl
/-- 'append(nil, make([]T, k)...)': a new row of k zeros and some room. -/
theorem OW.zeros {o : Oper} {dd : Option Nat} {s x : Operand} {t tn e : TypeId} {base : Nat} {k : Nat} {kd : IntKind} {z : Value} {size bytes : Nat} {α : Type} {c : α → List Value} (zz : α) {K : Fr → World → Prop} (hd : o.dst = dd)
    (ho : o.op = .call { callee := .builtin .append, args := #[s, x], argTypes := #[t, tn] }) (hs : ev n F s = .slice none 0 0) (hx : ev n F x = .int kd k)
    (ht : P.underlying t = some (.slice e)) (htn : P.underlying tn = some (.int kd)) (hi : (P.info? e).map (fun i => (i.zero, i.size, i.bytes)) = some (some z, size, bytes)) (hz : z.cells.toList = c zz) (hc : (c zz).length = size) (hpos : 0 < size)
    (hk : 0 < k) (hm : k ≤ maxLen) (hb : k * bytes ≤ 281474976710656) (hbase : base ≤ w.heap.size)
    (h : ∀ a' cap' w', Chg No w w' → Own w' base e size a' k cap' ((List.replicate k zz).flatMap c) → K (updo F dd (.slice a' k cap')) w') : OW P n F o w K := fun hok Q => by
  subst hd
  obtain ⟨i, hi0, hz0, hz1, hz2⟩ := info_parts hi
  have hzs : z.cells.size = size := by rw [← hc, ← hz]; simp
  have hrun := Lib.run_append_nil_zeros (P := P) w t tn o.type e i z kd kd ht htn hi0 hz0 k hk (by omega) (by unfold maxLen at hm; omega) (by rw [hz2]; exact hb)
  refine Lib.wp_append_run w s x t tn ho _ _ (by rw [eval_fr]; exact hs) (by rw [eval_fr]; exact hx) _ _ hrun ?_
  have hge := grownCap_ge w k 0 e
  have hcells : (Builtin.zeroCells z.cells k ++ Builtin.zeroCells z.cells (grownCap w k 0 e - k)).toList = (List.replicate (grownCap w k 0 e) zz).flatMap c := by
    rw [Array.toList_append]
    unfold Builtin.zeroCells
    rw [zero_flat c zz z.cells hz, zero_flat c zz z.cells hz, ← List.flatMap_append, List.replicate_append_replicate]
    congr 2
    omega
  refine ⟨_, put_fr n F o.dst _ hok, h _ _ _ ⟨rfl, rfl, rfl, by simp, fun j hj _ => Below.heap_alloc w.drew _ j hj⟩ ⟨?_, .inr ⟨w.heap.size, _, _, rfl, hbase, heap_alloc_new w.drew _, hge, grownCap_le_maxLen w k 0 e hm, ?_, ?_⟩⟩⟩
  · have := flat_len c (c zz).length
    simp [List.length_flatMap, hc]
  · simp [Builtin.zeroCells, hzs, ← Nat.add_mul]
    congr 1; omega
  · rw [hcells]
    conv => lhs; rw [show grownCap w k 0 e = k + (grownCap w k 0 e - k) by omega, ← List.replicate_append_replicate, List.flatMap_append]
    rw [List.take_append_of_le_length (by simp [List.length_flatMap, hc]), List.take_of_length_le (by simp [List.length_flatMap, hc])]
/-! ### Loops that are unrolled: so many rounds that go on -/
def Unr (ρ : Option Nat) (P : Program) (n : Nat) (c : Code) (Q : Exit → Fr → World → Prop) : Nat → Fr → World → Prop
  | 0, F, w => KW ρ P n c (thn (fun _ _ => False) Q) F w
  | k + 1, F, w => KW ρ P n c (thn (Unr ρ P n c Q k) Q) F w
theorem KW.unr {c : Code} (k : Nat) (h : Unr ρ P n c Q k F w) : KW ρ P n (.loop c) Q F w := by
  refine KW.loop (fun m F w => Unr ρ P n c Q m F w) k h ?_
  intro m F w h
  cases m with
  | zero => exact KW.mono h fun e F w h => by cases e <;> first | exact h | exact h.elim
  | succ m => exact KW.mono h fun e F w h => by cases e <;> first | exact h | exact ⟨m, Nat.lt_succ_self m, h⟩
theorem Unr.succ {c : Code} {k : Nat} (h : KW ρ P n c (thn (Unr ρ P n c Q k) Q) F w) : Unr ρ P n c Q (k + 1) F w := h
theorem Unr.zero {c : Code} (h : KW ρ P n c (thn (fun _ _ => False) Q) F w) : Unr ρ P n c Q 0 F w := h
/-! ### More parts of slices -/
/-! ### Two new blocks, in either order -/
end
end K
end Go.Proofs.YtnehocjmgnhhhaaDoor
