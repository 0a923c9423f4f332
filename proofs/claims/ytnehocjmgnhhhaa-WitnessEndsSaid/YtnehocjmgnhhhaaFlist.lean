import Derived.Test.YtnehocjmgnhhhaaKr
import Derived.RangeFuncIn
import Derived.RangeFuncCalls
import Derived.Laws.BytesArg
import Derived.Laws.OwnMore
/- Ranges over functions: calls of yield, rounds, the statement. -/
namespace Go.Proofs.Ytnehocjmgnhhhaa
open Go.RowKit
set_option linter.unusedVariables false
namespace K
def noCells : Obj → Bool
  | .cells .. => false
  | _ => true
def Ob (w : World) (l : Nat) (o : Obj) : Prop := w.heap[l]? = some o ∧ noCells o = true
section
variable {w w' : World} {l : Nat} {o : Obj}
theorem Ob.lt (h : Ob w l o) : l < w.heap.size := (Array.getElem?_eq_some_iff.1 h.1).1
theorem Ob.chg {X : Nat → Prop} (h : Ob w l o) (hc : Chg X w w') (hn : ¬ X l) : Ob w' l o := ⟨(hc.block l h.lt hn).trans h.1, h.2⟩
theorem Ob.no (h : Ob w l o) (hc : Chg No w w') : Ob w' l o := h.chg hc id
theorem Turn.chg (h : Turn l w w') : Chg (Is l) w w' := ⟨h.os, h.tape, h.output, by rw [h.size]; exact Nat.le_refl _, fun k _ hn => h.block k hn⟩
theorem Ob.put (h : Ob w l o) (o' : Obj) (h' : noCells o' = true) : Ob (w.putObj l o') l o' :=
  ⟨by show (w.heap.setIfInBounds l o')[l]? = _; rw [Array.getElem?_setIfInBounds, if_pos rfl, if_pos h.lt], h'⟩
end
def YS (P : Program) (l : Nat) (args : List Value) (w : World) (R : Value → World → Prop) : Prop :=
  ∃ r : Loop, w.heap[l]? = some (.loop r) ∧ args.length = r.params.size ∧
    RoundIn (fe none) 0 P l r.fn ((r.params.zip args.toArray).foldl (fun tmps (t, a) => tmps.setIfInBounds t a) r.tmps) r.assign r.body w (fun e w' => ∃ v, e = .returned v ∧ R v w')
section
variable {P : Program} {n : Nat} {Q : Exit → Fr → World → Prop} {F : Fr} {w : World}
def RY (P : Program) (n : Nat) (ops : Array Oper) (l : List Oper) (Q : Exit → Fr → World → Prop) (F : Fr) (w : World) : Prop := wpListIn (fe none) 0 P ops (lq n Q) l (fr n F) w
theorem KW.regionY {id : Nat} {l : List Oper} (h : RY P n l.toArray l Q F w) : KW none P n (.region id l.toArray false) Q F w := wpIn_region_lit h
theorem RY.nil {ops : Array Oper} (h : Q .normal F w) : RY P n ops [] Q F w := lq_normal h
theorem RY.l {ops : Array Oper} {o : Oper} {rest : List Oper} (hg : gd ops n F o = true) (h : OW P n F o w (RY P n ops rest Q)) (hd : ndo o = true := by rfl) : RY P n ops (o :: rest) Q F w := by
  obtain ⟨hg, hok⟩ := gd_spec hg
  unfold RY wpListIn
  rw [wanted_fr, if_pos hg]
  refine Go.Oper.wpIn_mono ?_ (Oper.wpIn_of_wp hd (h hok _))
  rintro a w' ⟨G, rfl, h⟩
  exact h
theorem RY.q {ops : Array Oper} {o : Oper} {rest : List Oper} {v : Value} {d : Option Nat} (hd : o.dst = d) (hg : gd ops n F o = true) (hq : QR P n F o v w) (h : RY P n ops rest Q (updo F d v) w) (hd : ndo o = true := by rfl) : RY P n ops (o :: rest) Q F w :=
  RY.l hg (OW.q (by assumption) hq h) hd
theorem RY.yield {ops : Array Oper} {o : Oper} {rest : List Oper} {x : Operand} {l : Nat} {as_ : List Operand} {ats : Array TypeId} {d : Option Nat} {R : Value → World → Prop} (hd : o.dst = d) (hg : gd ops n F o = true) (vs : List Value)
    (ho : o.op = .call { callee := .value x, args := as_.toArray, argTypes := ats }) (hx : ev n F x = .func (.yield l) #[] #[]) (hv : as_.map (ev n F) = vs) (hy : YS P l vs w R)
    (h : ∀ v w', R v w' → RY P n ops rest Q (updo F d v) w') : RY P n ops (o :: rest) Q F w := by
  subst hd hv
  obtain ⟨hg, hok⟩ := gd_spec hg
  obtain ⟨r, hl, hs, hr⟩ := hy
  unfold RY wpListIn
  rw [wanted_fr, if_pos hg]
  have hrun : (execOp (fr n F).eval o).run P w = .ok (.round l r.fn ((r.params.zip (as_.map (ev n F)).toArray).foldl (fun tmps (t, a) => tmps.setIfInBounds t a) r.tmps) r.assign r.body) w := by
    rw [eval_fr]
    unfold execOp
    rw [ho]
    have hy := run_yield (P := P) (w := w) (args := (as_.map (ev n F)).toArray) hl (by simpa using hs)
    simp [resolve, Deferred.ofValue, invoke, hx]
    simpa using hy
  refine ⟨fun _ _ => trivial, ?_⟩
  rw [show (fe none).round = none from rfl, Oper.semAt_none, hrun, Oper.uponIn_round]
  refine ⟨(fun h => by cases h), RoundIn.mono hr ?_⟩
  rintro e w' ⟨v, rfl, hR⟩
  show wpListIn _ _ _ _ _ _ _ _
  rw [put_fr _ _ _ _ hok]
  exact h v w' hR
/-! ### A round -/
def rq (l : Nat) (R : Value → World → Prop) : Exit → Fr → World → Prop
  | .normal, _, w => ∃ r : Loop, Ob w l (.loop r) ∧ ∀ w2, Turn l w w2 → Ob w2 l (.loop { r with state := .ready, pending := none }) → R (.bool true) w2
  | .ret, _, w => ∃ r : Loop, Ob w l (.loop r) ∧ ∀ w2, Turn l w w2 → Ob w2 l (.loop { r with state := .done, pending := some .ret }) → R (.bool false) w2
  | .exit id, _, w => ∃ r : Loop, Ob w l (.loop r) ∧ ∀ w2, Turn l w w2 → Ob w2 l (.loop { r with state := .done, pending := some (.exit id) }) → R (.bool false) w2
  | _, _, _ => False
def rb (P : Program) (n l : Nat) (body : Code) (R : Value → World → Prop) : Exit → Fr → World → Prop
  | .normal, G, w => ∃ r : Loop, Ob w l (.loop r) ∧ r.state = .ready ∧ ∀ w2, Turn l w w2 → Ob w2 l (.loop { r with state := .busy }) → KW (some l) P n body (rq l R) G w2
  | _, _, _ => False
def setPs (F : Fr) : List (Nat × Value) → Fr
  | [] => F
  | (t, v) :: l => setPs (upd F t v) l
theorem foldl_setPs {n : Nat} : ∀ (ps : List (Nat × Value)) (F : Fr), (∀ p ∈ ps, p.1 < n) → ps.foldl (fun (tmps : Array Value) (x : Nat × Value) => tmps.setIfInBounds x.1 x.2) (arr n F) = arr n (setPs F ps)
  | [], _, _ => rfl
  | (t, v) :: ps, F, h => by
    have ht : t < n := h (t, v) (by simp)
    have h1 : (arr n F).setIfInBounds t v = arr n (upd F t v) := by
      have := congrArg Act.tmps (put_fr n (upd F n undef) (some t) v (by simpa [dok, Nat.blt_eq] using ht))
      apply Array.ext (by simp [arr])
      intro i h1 h2
      have hi : i < n := by simpa [arr] using h2
      by_cases hd : t = i
      · subst hd
        simp [arr, upd]
      · have hd' : Nat.beq i t = false := by rw [Bool.eq_false_iff]; intro h; exact hd (Nat.eq_of_beq_eq_true h).symm
        simp [arr, upd, hd, hd']
    simp only [List.foldl_cons]
    rw [h1]
    exact foldl_setPs ps _ (fun p hp => h p (by simp [hp]))
theorem setPs_n {n : Nat} : ∀ (ps : List (Nat × Value)) (F : Fr), (∀ p ∈ ps, p.1 < n) → setPs F ps n = F n
  | [], _, _ => rfl
  | (t, v) :: ps, F, h => by
    have ht : t < n := h (t, v) (by simp)
    have : Nat.beq n t = false := by rw [Bool.eq_false_iff]; intro h; have := Nat.eq_of_beq_eq_true h; omega
    show setPs (upd F t v) ps n = F n
    rw [setPs_n ps _ (fun p hp => h p (by simp [hp]))]
    simp [upd, this]
theorem YS.round {l : Nat} {r : Loop} {ps : List Nat} {args : List Value} {R : Value → World → Prop} (hl : w.heap[l]? = some (.loop r)) (ht : r.tmps = arr n F) (hp : r.params = ps.toArray) (hD : F n = undef) (hlen : args.length = ps.length)
    (hlt : (ps.all fun t => Nat.blt t n) = true) (h : KW (some l) P n r.assign (rb P n l r.body R) (setPs F (ps.zip args)) w) : YS P l args w R := by
  refine ⟨r, hl, by rw [hp, hlen]; simp, ?_⟩
  have hps : ∀ p ∈ ps.zip args, p.1 < n := fun p hp => by
    have h1 := List.all_eq_true.1 hlt p.1 (List.of_mem_zip hp).1
    simpa [Nat.blt_eq] using h1
  have htm : (r.params.zip args.toArray).foldl (fun tmps (t, a) => tmps.setIfInBounds t a) r.tmps = arr n (setPs F (ps.zip args)) := by
    rw [hp, ht, List.zip_toArray, List.foldl_toArray]
    exact foldl_setPs _ _ hps
  rw [htm]
  refine roundIn_of_wpIn (F := fe none) trivial ?_
  have he : ({ tmps := arr n (setPs F (ps.zip args)), defers := [] } : Act) = fr n (setPs F (ps.zip args)) := by
    simp [fr, setPs_n _ _ hps, hD, dOf, undef]
  rw [he]
  refine wpIn_mono h ?_
  intro e a w' hq
  cases e with
  | panic => exact hq.elim
  | outgrown => exact hq.elim
  | ret => obtain ⟨G, rfl, h⟩ := hq; exact h.elim
  | exit => obtain ⟨G, rfl, h⟩ := hq; exact h.elim
  | goto => obtain ⟨G, rfl, h⟩ := hq; exact h.elim
  | normal =>
    obtain ⟨G, rfl, r', hob, hst, hk⟩ := hq
    refine ⟨_, run_beginRound hob.1 hst, ?_⟩
    refine wpIn_mono (hk _ (Turn.put _ _ _) (hob.put _ rfl)) ?_
    intro e a w' hq
    cases e with
    | panic => exact hq.elim
    | outgrown => exact hq.elim
    | goto => obtain ⟨G, rfl, h⟩ := hq; exact h.elim
    | normal => obtain ⟨G, rfl, r'', hob, hR⟩ := hq; exact ⟨_, _, run_endRound none hob.1, _, rfl, hR _ (Turn.put _ _ _) (hob.put _ rfl)⟩
    | ret => obtain ⟨G, rfl, r'', hob, hR⟩ := hq; exact ⟨_, _, run_endRound (some .ret) hob.1, _, rfl, hR _ (Turn.put _ _ _) (hob.put _ rfl)⟩
    | exit id => obtain ⟨G, rfl, r'', hob, hR⟩ := hq; exact ⟨_, _, run_endRound (some (.exit id)) hob.1, _, rfl, hR _ (Turn.put _ _ _) (hob.put _ rfl)⟩
/-! ### The statement -/
def mkLoop (fnid : FuncId) (n : Nat) (F : Fr) (ps : List Nat) (assign body : Code) (r0 : Nat) : Loop :=
  { state := .ready, pending := none, fn := fnid, tmps := arr n F, params := ps.toArray, assign, body, defers := r0 }
def afterR (Q : Exit → Fr → World → Prop) (F : Fr) (w : World) : Option Code → Prop
  | none => Q .normal F w
  | some .ret => Q .ret F w
  | some (.exit id) => Q (.exit id) F w
  | _ => False
theorem arr_upd_n (n : Nat) (F : Fr) (v : Value) : arr n (upd F n v) = arr n F := by
  apply Array.ext (by simp [arr])
  intro i h1 h2
  have hi : i < n := by simpa [arr] using h2
  have : Nat.beq i n = false := by rw [Bool.eq_false_iff]; intro h; have := Nat.eq_of_beq_eq_true h; omega
  simp [arr, upd, this]
theorem fr_marked (n : Nat) (F : Fr) (r0 : Nat) : ({ tmps := arr n F, defers := [{ target := .collected r0, args := #[] }] } : Act) = fr n (upd F n (.int .i64 r0)) := by
  have h : upd F n (Value.int .i64 (r0 : Int)) n = .int .i64 (r0 : Int) := by simp [upd]
  unfold fr
  rw [arr_upd_n, h]
  simp [dOf]
theorem KW.range {g : Operand} {ps : List Nat} {assign body : Code} {f : FuncId} {first cap : List Value} (hg : ev n F g = .func (.func f) first.toArray cap.toArray) (hf : callable P f = true) (hD : F n = undef)
    (h : ∀ fnid w1 r0 l, r0 = w.heap.size → l = w.heap.size + 1 → w1.heap.size = w.heap.size + 2 → Chg No w w1 → Ob w1 r0 (.deferred (some [])) → Ob w1 l (.loop (mkLoop fnid n F ps assign body r0)) →
      KC P f (first ++ [Value.func (.yield l) #[] #[]] ++ cap).toArray w1 (fun _ w3 => ∃ r : Loop, Ob w3 l (.loop r) ∧ r.state ≠ .busy ∧ ∀ w4, Turn l w3 w4 → afterR Q (upd F n (.int .i64 r0)) w4 r.pending)) :
    KW none P n (.rangeFunc g ps.toArray assign body) Q F w := by
  refine wpIn_rangeFunc (F := fe none) fun fnid _ => ?_
  let W1 : World := (w.alloc (.deferred (some []))).alloc (.loop (mkLoop fnid n F ps assign body w.heap.size))
  refine ⟨w.heap.size + 1, [{ target := .collected w.heap.size, args := #[] }], W1, ⟨.fn (.func f) cap.toArray, (first ++ [Value.func (.yield (w.heap.size + 1)) #[] #[]]).toArray⟩, W1, f, (first ++ [Value.func (.yield (w.heap.size + 1)) #[] #[]] ++ cap).toArray, W1,
    run_enterLoop_outer fnid _ _ _ _, ?_, fun _ _ => trivial, ?_, (fun h => by cases h), ?_⟩
  · have hy : ev n F (.const (Value.func (.yield (w.heap.size + 1)) #[] #[])) = Value.func (.yield (w.heap.size + 1)) #[] #[] := rfl
    simp [rangeCall, resolve, Deferred.ofValue, eval_fr, hg, hy]
  · simp [invoke, callFunc_run hf]
  · have h1 : Chg No w ((w.alloc (.deferred (some []))).alloc (.loop (mkLoop fnid n F ps assign body w.heap.size))) := (Chg.alloc w _).no (Chg.alloc _ _)
    have h2 := h fnid W1 w.heap.size (w.heap.size + 1) rfl rfl (by simp [W1]) h1
      ⟨by rw [Below.heap_alloc _ _ _ (by simp)]; exact World.alloc_heap_new w _, rfl⟩ ⟨by rw [← show (w.alloc (.deferred (some []))).heap.size = w.heap.size + 1 by simp]; exact World.alloc_heap_new _ _, rfl⟩
    refine (callsIn_wide (n := 0)).2 (Calls.mono h2 ?_)
    rintro e w3 ⟨v, rfl, r, hob, hst, ha⟩
    have ha := ha _ (Turn.put w3 (w.heap.size + 1) (.loop { r with state := .exhausted }))
    refine ⟨_, _, run_endLoop hob.1 hst, ?_⟩
    have hfr : ({ fr n F with defers := [{ target := .collected w.heap.size, args := #[] }] ++ (fr n F).defers } : Act) = fr n (upd F n (.int .i64 (w.heap.size : Int))) := by
      rw [← fr_marked]
      simp [fr, hD, dOf, undef]
    rw [hfr]
    cases hp : r.pending with
    | none => rw [hp] at ha; exact ⟨_, rfl, ha⟩
    | some c =>
      rw [hp] at ha
      cases c with
      | ret => exact wpIn_ret ⟨_, rfl, ha⟩
      | exit id => exact wpIn_exit ⟨_, rfl, ha⟩
      | skip => exact ha.elim
      | region => exact ha.elim
      | seq => exact ha.elim
      | cond => exact ha.elim
      | block => exact ha.elim
      | loop => exact ha.elim
      | rangeFunc => exact ha.elim
      | scope => exact ha.elim
      | label => exact ha.elim
      | goto => exact ha.elim
      | refuse => exact ha.elim
theorem afterR_none {p : Option Code} (hp : p = none) (h : Q .normal F w) : afterR Q F w p := by subst hp; exact h
theorem afterR_ret {p : Option Code} (hp : p = some .ret) (h : Q .ret F w) : afterR Q F w p := by subst hp; exact h
end
end K
end Go.Proofs.Ytnehocjmgnhhhaa

/- More operations that only look: strings, shifts and bits, arrays by value. -/
namespace Go.Proofs.Ytnehocjmgnhhhaa
open Go.RowKit
set_option linter.unusedVariables false
namespace K
section
variable {P : Program} {n : Nat} {Q : Exit → Fr → World → Prop} {F : Fr} {w : World}
/-! ### Shifts, and bits put together -/
def andK (k : IntKind) (x y : Int) : Int := k.wrap ((BitVec.ofInt k.bits x &&& BitVec.ofInt k.bits y).toNat : Int)
theorem QR.shr {o : Oper} {t y2 : TypeId} {x y : Operand} {k yk : IntKind} {a : Int} {m : Nat} (ho : o.op = .binOp .shr t x y y2) (hx : ev n F x = .int k a) (hy : ev n F y = .int yk m) (hm : m ≤ k.bits) (h0 : 0 ≤ a) : QR P n F o (.int k (a / 2 ^ m)) w := by
  unfold QR execOp
  rw [ho]
  have h1 : (eqGuard .shr t x y (.int k a) (.int yk m)).run P w = .ok () w := rfl
  have h2 : ¬ ((m : Int) < 0) := by omega
  have h3 : min m k.bits = m := by omega
  have h4 : a.fdiv (2 ^ m) = a / 2 ^ m := Int.fdiv_eq_ediv_of_nonneg a (Int.le_of_lt (Int.pow_pos (by decide)))
  simp [hx, hy, h1, binOp, Op.shift, h2, h3, h4]
theorem QR.and {o : Oper} {t y2 : TypeId} {x y : Operand} {k : IntKind} {a b : Int} (ho : o.op = .binOp .and t x y y2) (hx : ev n F x = .int k a) (hy : ev n F y = .int k b) : QR P n F o (.int k (andK k a b)) w := by
  unfold QR execOp
  rw [ho]
  have h1 : (eqGuard .and t x y (.int k a) (.int k b)).run P w = .ok () w := rfl
  simp [hx, hy, h1, binOp, Op.intBits, andK]
theorem OW.mk {o : Oper} {dd : Option Nat} {t e : TypeId} {l c : Operand} {k1 k2 : IntKind} {m : Nat} {base : Nat} {z : Value} {size bytes : Nat} {α : Type} {cc : α → List Value} (zz : α) {K : Fr → World → Prop} (hd : o.dst = dd)
    (ho : o.op = .makeSlice t l c) (hl : ev n F l = .int k1 m) (hc : ev n F c = .int k2 m) (ht : P.underlying t = some (.slice e)) (hi : (P.info? e).map (fun i => (i.zero, i.size, i.bytes)) = some (some z, size, bytes)) (hz : z.cells.toList = cc zz) (hs : (cc zz).length = size)
    (hm : m ≤ maxLen) (hb : bytes * m ≤ 281474976710656) (hbase : base ≤ w.heap.size)
    (h : ∀ w' r, r = w.heap.size → Chg No w w' → w'.heap.size = r + 1 → Own w' base e size (some ⟨r, 0, none⟩) m m ((List.replicate m zz).flatMap cc) → K (updo F dd (.slice (some ⟨r, 0, none⟩) m m)) w') : OW P n F o w K := fun hok Q => by
  subst hd
  obtain ⟨i, hi0, hz0, hz1, hz2⟩ := info_parts hi
  have h63 : (m : Int) ≤ 9223372036854775807 := by unfold maxLen at hm; omega
  have hb' : (i.bytes : Int) * (m : Int) ≤ 281474976710656 := by
    rw [hz2]
    have : ((bytes * m : Nat) : Int) ≤ 281474976710656 := by omega
    rwa [Int.natCast_mul] at this
  have hr := run_make (P := P) w t e i z ht hi0 hz0 k1 k2 m m (by omega) (Int.le_refl _) hb' h63
  simp only [Int.toNat_natCast] at hr
  have hzs : z.cells.size = size := by rw [← hs, ← hz]; simp
  have hcells : (madeCells z.cells (m * i.size)).toList = (List.replicate m zz).flatMap cc := by
    unfold madeCells
    rw [hz1, ← hzs]
    exact zero_flat cc zz z.cells hz m
  unfold Oper.wp
  rw [eval_fr]
  have hrun : (execOp (ev n F) o).run P w = .ok (.value (.slice (some ⟨w.heap.size, 0, none⟩) m m)) (w.alloc (.cells (madeCells z.cells (m * i.size)) e)) := by
    unfold execOp
    rw [ho]
    simp [hl, hc, hr]
  rw [hrun]
  refine ⟨_, put_fr n F o.dst _ hok, h _ _ rfl (Chg.alloc w _) (by simp) ⟨by simp [List.length_flatMap, hs], .inr ⟨w.heap.size, m, _, rfl, hbase, heap_alloc_new w _, Nat.le_refl _, hm, by rw [size_madeCells, hz1], ?_⟩⟩⟩
  rw [hcells, List.take_of_length_le (by simp [List.length_flatMap, hs])]
theorem Own.blk {base : Nat} {e : TypeId} {size m : Nat} {b : Nat} {xs : List Value} (h : Own w base e size (some ⟨b, 0, none⟩) m m xs) : Blk w b e xs := by
  rcases h.2 with ⟨h1, _⟩ | ⟨g, cap, cur, h1, _, hg, hn, hm, hs, ht⟩
  · simp at h1
  · simp only [Value.slice.injEq, Option.some.injEq, Addr.mk.injEq, and_true, true_and] at h1
    obtain ⟨rfl, rfl⟩ := h1
    unfold Blk
    rw [hg, ← ht, List.take_of_length_le (by simp [hs])]
theorem RowE.len {w : World} {a : Option Addr} {m sz q : Nat} {g : Nat → List Value} (h : RowE w a m sz g) (e : q = m) : RowE w a q sz g := e ▸ h
theorem QR.turn {o : Oper} {v v' : Value} (h : QR P n F o v w) (e : v = v') : QR P n F o v' w := e ▸ h
end
end K
end Go.Proofs.Ytnehocjmgnhhhaa

/- Lists of plain values as cells; Same tells whether two lists of words are one. -/
namespace Go.Proofs.Ytnehocjmgnhhhaa
open Go.RowKit
set_option linter.unusedVariables false
attribute [local irreducible] K.KW K.RW K.DW K.OW K.QR K.KC
def cI64 (x : Int) : List Value := [K.iv x]
def cU32 (x : Int) : List Value := [.int .u32 x]
def cBool (x : Bool) : List Value := [.bool x]
theorem calls_of_kc {P : Program} {f : FuncId} {args : Array Value} {w : World} (h : K.KC P f args w (fun v w' => v = .bool true ∧ K.Chg K.No w w')) :
  Calls P f args w fun e w' => e = .returned (.bool true) ∧ Below w.heap.size w w' := by
 unfold K.KC at h
 exact Calls.mono h fun e w' ⟨v, he, hv, hc⟩ => ⟨by rw [he, hv], hc.below_no⟩
end Go.Proofs.Ytnehocjmgnhhhaa
