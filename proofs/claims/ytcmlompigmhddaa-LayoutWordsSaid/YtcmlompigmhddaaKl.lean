/- A small step logic for the walks of this claim: a function's slots as a function from numbers to values, one lemma for each kind of operation. -/
import Derived.Test.YtcmlompigmhddaaProg
import Derived.WalkKit
import Derived.OrdersHeld
import Derived.KernelRfl
namespace Go.Proofs.Ytcmlompigmhddaa
open Go.RowKit
namespace K

abbrev Fr := Nat → Value
def upd (F : Fr) (d : Nat) (v : Value) : Fr := fun t => bif Nat.beq t d then v else F t
def updo (F : Fr) : Option Nat → Value → Fr
  | some d, v => upd F d v
  | none, _ => F
def arr (n : Nat) (F : Fr) : Array Value := ((List.range n).map F).toArray
def fr (n : Nat) (F : Fr) : Act := ⟨arr n F, []⟩
def ev (n : Nat) (F : Fr) : Operand → Value
  | .tmp t => bif Nat.blt t n then F t else undef
  | .const v => v
  | .global g => .pointer (some ⟨g, 0, none⟩)
  | .func f => .func (.func f) #[] #[]

theorem arr_getD (n : Nat) (F : Fr) (t : Nat) : (arr n F).getD t undef = bif Nat.blt t n then F t else undef := by
  by_cases h : t < n
  · have h' : Nat.blt t n = true := by simpa [Nat.blt_eq] using h
    simp [arr, h, h']
  · have : Nat.blt t n = false := by simpa [Bool.eq_false_iff, Nat.blt_eq] using h
    simp [arr, h, this]
theorem arr_get? (n : Nat) (F : Fr) (t : Nat) (h : t < n) : (arr n F)[t]? = some (F t) := by simp [arr, h]
theorem eval_fr (n : Nat) (F : Fr) : (fr n F).eval = ev n F := by
  funext x
  cases x with
  | tmp t => exact arr_getD n F t
  | _ => rfl
theorem put_fr (n : Nat) (F : Fr) (d : Option Nat) (v : Value) : (fr n F).put d v = fr n (updo F d v) := by
  cases d with
  | none => rfl
  | some d =>
    simp only [Act.put, fr, updo]
    congr 1
    apply Array.ext (by simp [arr])
    intro i h1 h2
    have hi : i < n := by simpa [arr] using h2
    by_cases hd : d = i
    · subst hd
      simp [arr, upd]
    · have hd' : Nat.beq i d = false := by
        rw [Bool.eq_false_iff]; intro h; exact hd (Nat.eq_of_beq_eq_true h).symm
      simp [arr, upd, hd, hd']

/-- A post that speaks of slots; no panic, no way out of memory. -/
def lq (n : Nat) (Q : Exit → Fr → World → Prop) : Exit → Act → World → Prop
  | .panic _, _, _ => False
  | .outgrown, _, _ => False
  | e, a, w => ∃ G, a = fr n G ∧ Q e G w

theorem lq_normal {n : Nat} {Q : Exit → Fr → World → Prop} {F : Fr} {w : World} (h : Q .normal F w) : lq n Q .normal (fr n F) w := ⟨F, rfl, h⟩

def KW (P : Program) (n : Nat) (c : Code) (Q : Exit → Fr → World → Prop) (F : Fr) (w : World) : Prop := c.wp P (lq n Q) (fr n F) w
def KC (P : Program) (f : FuncId) (args : Array Value) (w : World) (R : Value → World → Prop) : Prop :=
  Calls P f args w fun e w' => ∃ v, e = .returned v ∧ R v w'

theorem KC.mono {P : Program} {f : FuncId} {args : Array Value} {w : World} {R R' : Value → World → Prop} (h : KC P f args w R) (hr : ∀ v w', R v w' → R' v w') : KC P f args w R' :=
  Calls.mono h fun _ _ ⟨v, he, hR⟩ => ⟨v, he, hr _ _ hR⟩

def argF (l : List Value) : Fr := fun t => l.getD t undef

section
variable {P : Program} {n : Nat} {Q : Exit → Fr → World → Prop} {F : Fr} {w : World}

theorem KC.mk {f : FuncId} {fn : Func} {c : Code} {args : Array Value} {R : Value → World → Prop} (hf : P.funcs[f]? = some fn) (hb : fn.body = some c) (hn : fn.ntmps = n) (l : List Value) (ha : args = l.toArray) (hl' : Nat.ble l.length n = true)
    (h : KW P n c (fun e G w' => (e = .normal ∨ e = .ret) ∧ ∃ v, (results fn (arr n G)).run P w' = .ok v w' ∧ R v w') (argF l) w) : KC P f args w R := by
  have hl : l.length ≤ n := Nat.le_of_ble_eq_true hl'
  refine calls_of_wp hf hb ?_
  have he : ({ tmps := args ++ Array.replicate (fn.ntmps - args.size) undef, defers := [] } : Act) = fr n (argF l) := by
    subst ha hn
    simp only [fr]
    congr 1
    apply Array.ext (by simp [arr]; omega)
    intro i h1 h2
    simp only [arr] at h2 ⊢
    by_cases hi : i < l.length
    · simp [argF, hi]
    · have hi' : l.length ≤ i := by omega
      simp [argF, hi', Array.getElem_append_right]
  rw [he]
  refine wp_mono h ?_
  intro e a w' hq
  cases e with
  | panic => exact hq.elim
  | outgrown => exact hq.elim
  | normal => obtain ⟨G, rfl, _, v, hr, hR⟩ := hq; exact ⟨rfl, v, hr, v, rfl, hR⟩
  | ret => obtain ⟨G, rfl, _, v, hr, hR⟩ := hq; exact ⟨rfl, v, hr, v, rfl, hR⟩
  | exit => obtain ⟨G, rfl, h, _⟩ := hq; simp at h
  | goto => obtain ⟨G, rfl, h, _⟩ := hq; simp at h

theorem KW.mono {c : Code} {Q' : Exit → Fr → World → Prop} (h : KW P n c Q F w) (hq : ∀ e F w, Q e F w → Q' e F w) : KW P n c Q' F w :=
  wp_mono h fun e a w' h => by
    cases e <;> first | exact h | (obtain ⟨G, rfl, h⟩ := h; exact ⟨G, rfl, hq _ _ _ h⟩)

/-- what follows a first part -/
def thn (K : Fr → World → Prop) (Q : Exit → Fr → World → Prop) : Exit → Fr → World → Prop
  | .normal, F, w => K F w
  | e, F, w => Q e F w
def blk (id : Nat) (Q : Exit → Fr → World → Prop) : Exit → Fr → World → Prop
  | .exit i, F, w => bif Nat.beq i id then Q .normal F w else Q (.exit i) F w
  | e, F, w => Q e F w

theorem thn_normal {K : Fr → World → Prop} (h : K F w) : thn K Q .normal F w := h
theorem thn_exit {K : Fr → World → Prop} {i : Nat} (h : Q (.exit i) F w) : thn K Q (.exit i) F w := h
theorem thn_ret {K : Fr → World → Prop} (h : Q .ret F w) : thn K Q .ret F w := h
theorem blk_normal {id : Nat} (h : Q .normal F w) : blk id Q .normal F w := h
theorem blk_ret {id : Nat} (h : Q .ret F w) : blk id Q .ret F w := h
theorem blk_hit {id : Nat} (h : Q .normal F w) : blk id Q (.exit id) F w := by
  show bif Nat.beq id id then _ else _
  rw [show Nat.beq id id = true from Nat.beq_refl id]; exact h
theorem blk_miss {i id : Nat} (hi : Nat.beq i id = false) (h : Q (.exit i) F w) : blk id Q (.exit i) F w := by
  show bif Nat.beq i id then _ else _
  rw [hi]; exact h
/-- slots by name, all others forgotten -/
def puts (F : Fr) : List (Nat × Value) → Fr
  | [] => F
  | (d, v) :: l => upd (puts F l) d v
theorem upd_self {d : Nat} {v : Value} (h : F d = v) : upd F d v = F := by
  funext t
  simp only [upd]
  by_cases e : t = d
  · subst e; rw [show Nat.beq t t = true from Nat.beq_refl t]; exact h.symm
  · rw [show Nat.beq t d = false by rw [Bool.eq_false_iff]; intro h; exact e (Nat.eq_of_beq_eq_true h)]; rfl
/-- the slots of a frame that are known -/
def Sl (F : Fr) : List (Nat × Value) → Prop
  | [] => True
  | (d, v) :: l => F d = v ∧ Sl F l
theorem Sl.puts : ∀ {l : List (Nat × Value)}, Sl F l → puts F l = F
  | [], _ => rfl
  | (d, v) :: l, ⟨h1, h2⟩ => by
    show upd (K.puts F l) d v = F
    rw [Sl.puts h2]; exact upd_self h1

theorem KW.seq {x y : Code} (h : KW P n x (thn (KW P n y Q) Q) F w) : KW P n (.seq x y) Q F w := by
  refine wp_seq (wp_mono h ?_)
  intro e a w' hq
  cases e <;> first | exact hq.elim | (obtain ⟨G, rfl, h⟩ := hq; first | exact h | exact ⟨G, rfl, h⟩)
theorem KW.skip (h : Q .normal F w) : KW P n .skip Q F w := wp_skip ⟨F, rfl, h⟩
theorem KW.ret (h : Q .ret F w) : KW P n .ret Q F w := wp_ret ⟨F, rfl, h⟩
theorem KW.exit {id : Nat} (h : Q (.exit id) F w) : KW P n (.exit id) Q F w := wp_exit ⟨F, rfl, h⟩
theorem KW.ifT {c : Operand} {x y : Code} (hc : ev n F c = .bool true) (h : KW P n x Q F w) : KW P n (.cond c x y) Q F w :=
  wp_cond_true (by rw [eval_fr]; exact hc) h
theorem KW.ifF {c : Operand} {x y : Code} (hc : ev n F c = .bool false) (h : KW P n y Q F w) : KW P n (.cond c x y) Q F w :=
  wp_cond_false (by rw [eval_fr]; exact hc) h
theorem KW.block {id : Nat} {c : Code} (h : KW P n c (blk id Q) F w) : KW P n (.block id c) Q F w := by
  refine wp_block (wp_mono h ?_)
  intro e a w' hq
  cases e with
  | panic => exact hq.elim
  | outgrown => exact hq.elim
  | exit i =>
    obtain ⟨G, rfl, h⟩ := hq
    simp only [blk] at h
    simp only [Exit.inBlock]
    by_cases hi : i = id
    · subst hi
      rw [if_pos rfl]
      have : Nat.beq i i = true := Nat.beq_refl i
      rw [this] at h
      exact ⟨G, rfl, h⟩
    · rw [if_neg hi]
      have : Nat.beq i id = false := by rw [Bool.eq_false_iff]; intro h; exact hi (Nat.eq_of_beq_eq_true h)
      rw [this] at h
      exact ⟨G, rfl, h⟩
  | normal => obtain ⟨G, rfl, h⟩ := hq; exact ⟨G, rfl, h⟩
  | ret => obtain ⟨G, rfl, h⟩ := hq; exact ⟨G, rfl, h⟩
  | goto l => obtain ⟨G, rfl, h⟩ := hq; exact ⟨G, rfl, h⟩
/-- A loop: the first number falls in every round. -/
theorem KW.loop {c : Code} (I : Nat → Fr → World → Prop) (m : Nat) (h0 : I m F w)
    (hr : ∀ m F w, I m F w → KW P n c (thn (fun G w' => ∃ m', m' < m ∧ I m' G w') Q) F w) : KW P n (.loop c) Q F w := by
  intro b k cs
  have key : ∀ m F w, I m F w → ∃ e a' w', lq n Q e a' w' ∧ Arrives P (lone (b.at (fr n F) (.code c :: .inLoop c :: k)) cs w) b k cs e a' w' := by
    intro m
    induction m using Nat.strongRecOn with
    | _ m ih =>
      intro F w hI
      obtain ⟨e, a₁, w₁, hq, harr⟩ := hr m F w hI b (.inLoop c :: k) cs
      cases e with
      | normal =>
        obtain ⟨G, rfl, m', hm, hI'⟩ := hq
        obtain ⟨e₂, a₂, w₂, hq₂, harr₂⟩ := ih m' hm G w₁ hI'
        exact ⟨e₂, a₂, w₂, hq₂, .of_steps (Steps.trans harr (.one step_inLoop)) harr₂⟩
      | exit id => obtain ⟨G, rfl, hq⟩ := hq; exact ⟨.exit id, _, w₁, ⟨G, rfl, hq⟩, .pass (x := .inLoop c) rfl (fun _ _ => .inl (by simp)) harr⟩
      | goto l => obtain ⟨G, rfl, hq⟩ := hq; exact ⟨.goto l, _, w₁, ⟨G, rfl, hq⟩, .pass (x := .inLoop c) rfl (fun _ _ => .inl (by simp)) harr⟩
      | ret => obtain ⟨G, rfl, hq⟩ := hq; exact ⟨.ret, _, w₁, ⟨G, rfl, hq⟩, .pass (x := .inLoop c) rfl (fun _ _ => .inl (by simp)) harr⟩
      | panic ch => exact hq.elim
      | outgrown => exact hq.elim
  obtain ⟨e, a', w', hq, harr⟩ := key m F w h0
  exact ⟨e, a', w', hq, .of_steps (.one step_loop) harr⟩


/-! ### Regions -/
def RW (P : Program) (n : Nat) (ops : Array Oper) (l : List Oper) (Q : Exit → Fr → World → Prop) (F : Fr) (w : World) : Prop := wpList P ops (lq n Q) l (fr n F) w
/-- an operation that only looks, and what it yields -/
def QR (P : Program) (n : Nat) (F : Fr) (o : Oper) (v : Value) (w : World) : Prop := (execOp (ev n F) o).run P w = .ok (.value v) w
def OW (P : Program) (n : Nat) (F : Fr) (o : Oper) (w : World) (K : Fr → World → Prop) : Prop :=
  ∀ Q : Exit → Act → World → Prop, o.wp P (fr n F) w (fun a w' => ∃ G, a = fr n G ∧ K G w') Q

/-- is the operation wanted? -/
def gd (ops : Array Oper) (n : Nat) (F : Fr) (o : Oper) : Bool :=
  match o.guard with
  | none => true
  | some (j, want) => match (ops[j]?).bind (·.dst) with
    | some t => match ev n F (.tmp t) with
      | .bool b => b == want
      | _ => false
    | none => false

theorem wanted_fr (ops : Array Oper) (n : Nat) (F : Fr) (o : Oper) : Region.wanted o (yielded ops (fr n F).tmps) = gd ops n F o := by
  unfold Region.wanted gd
  cases o.guard with
  | none => rfl
  | some g =>
    obtain ⟨j, want⟩ := g
    simp only [yielded]
    cases (ops[j]?).bind (·.dst) with
    | none => rfl
    | some t =>
      simp only [Option.bind_some, ev]
      by_cases h : t < n
      · have h' : Nat.blt t n = true := by simpa [Nat.blt_eq] using h
        rw [show (fr n F).tmps[t]? = some (F t) from arr_get? n F t h, h']
        cases F t <;> simp [undef]
      · have h' : Nat.blt t n = false := by simpa [Bool.eq_false_iff, Nat.blt_eq] using h
        have hle : n ≤ t := Nat.le_of_not_lt h
        have hn : (fr n F).tmps[t]? = none := Array.getElem?_eq_none (by simpa [fr, arr] using hle)
        rw [hn, h']
        simp [undef]

theorem KW.region {id : Nat} {l : List Oper} (h : RW P n l.toArray l Q F w) : KW P n (.region id l.toArray false) Q F w := wp_region_lit h
theorem RW.nil {ops : Array Oper} (h : Q .normal F w) : RW P n ops [] Q F w := wpList_nil (lq_normal h)

theorem OW.q {o : Oper} {v : Value} {d : Option Nat} {K : Fr → World → Prop} (hd : o.dst = d) (hq : QR P n F o v w) (h : K (updo F d v) w) : OW P n F o w K := fun Q => by
  subst hd
  unfold Oper.wp
  unfold QR at hq
  rw [eval_fr, hq]
  exact ⟨_, put_fr n F o.dst v, h⟩
theorem RW.l {ops : Array Oper} {o : Oper} {rest : List Oper} (hg : gd ops n F o = true) (h : OW P n F o w (RW P n ops rest Q)) : RW P n ops (o :: rest) Q F w := by
  unfold RW wpList
  rw [wanted_fr, if_pos hg]
  refine .inl (Oper.wp_mono ?_ (h _))
  rintro a w' ⟨G, rfl, h⟩
  exact h
theorem RW.q {ops : Array Oper} {o : Oper} {rest : List Oper} {v : Value} {d : Option Nat} (hd : o.dst = d) (hg : gd ops n F o = true) (hq : QR P n F o v w) (h : RW P n ops rest Q (updo F d v) w) : RW P n ops (o :: rest) Q F w :=
  RW.l hg (OW.q hd hq h)
theorem RW.skip {ops : Array Oper} {o : Oper} {rest : List Oper} {d : Option Nat} (hd : o.dst = d) (hg : gd ops n F o = false) (h : RW P n ops rest Q (updo F d undef) w) : RW P n ops (o :: rest) Q F w := by
  subst hd
  unfold RW wpList
  rw [wanted_fr, if_neg (by rw [hg]; simp), put_fr]
  exact h

/-! ### Regions that draw their order -/
def DW (P : Program) (n : Nat) (ops : Array Oper) (S : World → Prop) (fuel : Nat) (listed : Array Bool) (Q : Exit → Fr → World → Prop) (F : Fr) (w : World) : Prop :=
  wpAnyH P .any ops (lq n Q) S fuel listed (fr n F) w
def canTake (ops : Array Oper) (listed : Array Bool) (i : Nat) : Bool := Region.free .any ops listed i && (Region.ready .any ops listed).contains i

theorem KW.drawnA {id : Nat} {l : List Oper} (S : World → Prop) (hm : P.follows .mixedOrders = true) (h : DW P n l.toArray S l.length (Array.replicate l.length false) Q F w.drew) : KW P n (.region id l.toArray true) Q F w :=
  wp_region_held (S := S) hm (by unfold DW at h; simpa using h)
theorem lq_panic_put (n : Nat) (Q : Exit → Fr → World → Prop) (d : Option Nat) (v : Value) : ∀ (c : List PanicEntry) (a : Act) (w : World), lq n Q (.panic c) (a.put d v) w → lq n Q (.panic c) a w := fun _ _ _ h => h
theorem DW.q {ops : Array Oper} {S : World → Prop} {fuel : Nat} {listed : Array Bool} (i : Nat) {oi : Oper} {v : Value} {d : Option Nat} (hs : Region.noSelect ops = true) (hi : ops[i]? = some oi) (hd : oi.dst = d) (hc : canTake ops listed i = true)
    (hg : gd ops n F oi = true) (hq : ∀ w', S w' → QR P n F oi v w') (hS : S w) (h : DW P n ops S fuel (listed.setIfInBounds i true) Q (updo F d v) w) : DW P n ops S (fuel + 1) listed Q F w := by
  subst hd
  simp only [canTake, Bool.and_eq_true] at hc
  refine wpAnyH_take hi hs hc.1 hc.2 (lq_panic_put n Q _ _) (.inl ⟨by rw [wanted_fr]; exact hg, fun w' hw' => by rw [eval_fr]; exact hq w' hw'⟩) hS ?_
  rw [put_fr]; exact h
theorem DW.skip {ops : Array Oper} {S : World → Prop} {fuel : Nat} {listed : Array Bool} (i : Nat) {oi : Oper} {d : Option Nat} (hs : Region.noSelect ops = true) (hi : ops[i]? = some oi) (hd : oi.dst = d) (hc : canTake ops listed i = true)
    (hg : gd ops n F oi = false) (hS : S w) (h : DW P n ops S fuel (listed.setIfInBounds i true) Q (updo F d undef) w) : DW P n ops S (fuel + 1) listed Q F w := by
  subst hd
  simp only [canTake, Bool.and_eq_true] at hc
  refine wpAnyH_take (v := undef) hi hs hc.1 hc.2 (lq_panic_put n Q _ _) (.inr ⟨by rw [wanted_fr]; exact hg, rfl⟩) hS ?_
  rw [put_fr]; exact h
theorem DW.l {ops : Array Oper} {S : World → Prop} {fuel : Nat} {listed : Array Bool} (i : Nat) {oi : Oper} (hi : ops[i]? = some oi) (hr : Region.ready .any ops listed = [i]) (hg : gd ops n F oi = true)
    (h : OW P n F oi w (fun G w' => S w' ∧ DW P n ops S fuel (listed.setIfInBounds i true) Q G w')) : DW P n ops S (fuel + 1) listed Q F w := by
  refine wpAnyH_all hr (by simp) ?_
  intro j hj
  simp only [List.mem_singleton] at hj
  subst hj
  unfold wpOp
  rw [hi]
  simp only []
  rw [wanted_fr, if_pos hg]
  refine .inl (Oper.wp_mono ?_ (h _))
  rintro a w' ⟨G, rfl, h⟩
  exact h
theorem DW.done {ops : Array Oper} {S : World → Prop} {fuel : Nat} {listed : Array Bool} (hr : Region.ready .any ops listed = []) (h : Q .normal F w) : DW P n ops S fuel listed Q F w :=
  wpAnyH_done hr (lq_normal h) _

/-! ### What an operation that only looks yields -/
theorem QR.k {o : Oper} {v : Value} (h : (execOp (ev n F) o).run P w = .ok (.value v) w) : QR P n F o v w := h
theorem QR.nice {o : Oper} {v v' : Value} (h : (execOp (ev n F) o).run P w = .ok (.value v) w) (e : v = v') : QR P n F o v' w := e ▸ h
theorem QR.n64 {o : Oper} (x z : Int) (h : (execOp (ev n F) o).run P w = .ok (.value (.int .i64 (IntKind.i64.wrap x))) w) (hz : x = z ∧ -9223372036854775808 ≤ z ∧ z ≤ 9223372036854775807) : QR P n F o (.int .i64 z) w :=
  QR.nice h (by obtain ⟨rfl, hz⟩ := hz; rw [IntWalk.i64_in x hz])
theorem QR.nu64 {o : Oper} (x z : Int) (h : (execOp (ev n F) o).run P w = .ok (.value (.int .u64 (IntKind.u64.wrap x))) w) (hz : x = z ∧ 0 ≤ z ∧ z ≤ 18446744073709551615) : QR P n F o (.int .u64 z) w :=
  QR.nice h (by obtain ⟨rfl, hz⟩ := hz; rw [IntWalk.u64_in x hz])

theorem QR.quoi64 {o : Oper} (x y z : Int) (h : (execOp (ev n F) o).run P w = .ok (.value (.int .i64 (IntKind.i64.wrap (x.tdiv y)))) w) (hx : 0 ≤ x ∧ x ≤ 9223372036854775807 ∧ 1 ≤ y) (hz : x / y = z) : QR P n F o (.int .i64 z) w :=
  QR.nice h (by rw [IntWalk.i64_quo x y hx, hz])
theorem QR.quou64 {o : Oper} (x y z : Int) (h : (execOp (ev n F) o).run P w = .ok (.value (.int .u64 (IntKind.u64.wrap (x.tdiv y)))) w) (hx : 0 ≤ x ∧ x ≤ 18446744073709551615 ∧ 1 ≤ y) (hz : x / y = z) : QR P n F o (.int .u64 z) w :=
  QR.nice h (by rw [IntWalk.u64_quo x y hx, hz])
theorem QR.remi64 {o : Oper} (x y z : Int) (h : (execOp (ev n F) o).run P w = .ok (.value (.int .i64 (x.tmod y))) w) (hx : 0 ≤ x) (hz : x % y = z) : QR P n F o (.int .i64 z) w :=
  QR.nice h (by rw [IntWalk.rem_in x y hx, hz])
theorem QR.remu64 {o : Oper} (x y z : Int) (h : (execOp (ev n F) o).run P w = .ok (.value (.int .u64 (x.tmod y))) w) (hx : 0 ≤ x) (hz : x % y = z) : QR P n F o (.int .u64 z) w :=
  QR.nice h (by rw [IntWalk.rem_in x y hx, hz])

def aggT (P : Program) (t : TypeId) : Option Bool := (P.underlying t).map fun d => match d with | .struct _ | .array _ _ => true | _ => false
theorem isAgg_run {t : TypeId} {b : Bool} (h : aggT P t = some b) : (isAgg t).run P w = .ok b w := by
  unfold aggT at h
  obtain ⟨d, hd, hb⟩ := Option.map_eq_some_iff.1 h
  unfold isAgg
  simp only [Sem.run_bind, run_underlying hd, Result.andThen_ok]
  cases d <;> simp_all

theorem QR.ld1 {o : Oper} {v : Value} {t : TypeId} {x : Operand} {p : Addr} (ho : o.op = .load t x) (hx : ev n F x = .pointer (some p)) (ha : aggT P t = some false) (hc : w.cell? p = some v) : QR P n F o v w := by
  unfold QR execOp
  rw [ho]
  simp [hx, Instr.loadAt, Instr.sureAddr, loadVar, isAgg_run ha, hc]
theorem Addr.add_off (b off j : Nat) : (⟨b, off, none⟩ : Addr).add j = ⟨b, off + j, none⟩ := by
  unfold Addr.add; split <;> simp_all
theorem QR.ldN {o : Oper} {t : TypeId} {x : Operand} {b off : Nat} (cs : List Value) (ho : o.op = .load t x) (hx : ev n F x = .pointer (some ⟨b, off, none⟩)) (ha : aggT P t = some true) (hs : (P.info? t).map (·.size) = some cs.length)
    (hc : ∀ j v, cs[j]? = some v → w.cell? ⟨b, off + j, none⟩ = some v) : QR P n F o (.agg cs.toArray) w := by
  unfold QR execOp
  rw [ho]
  obtain ⟨i, hi, hsz⟩ := Option.map_eq_some_iff.1 hs
  have hl := run_loadCells_list (P := P) (w := w) ⟨b, off, none⟩ cs (fun j v hj => by rw [Addr.add_off]; exact hc j v hj)
  simp [hx, Instr.loadAt, Instr.sureAddr, loadVar, isAgg_run ha, sizeOf, typeInfo, hi, hsz, hl]
theorem QR.ix {o : Oper} {t e : TypeId} {x ix : Operand} {b off len cap : Nat} {ik : IntKind} {i : Int} (off' sz : Nat) (ho : o.op = .indexAddr t x ix) (hx : ev n F x = .slice (some ⟨b, off, none⟩) len cap) (hi : ev n F ix = .int ik i)
    (ht : P.underlying t = some (.slice e)) (hs : (P.info? e).map (·.size) = some sz) (hb : 0 ≤ i ∧ i < len) (hz : off + i.toNat * sz = off') : QR P n F o (.pointer (some ⟨b, off', none⟩)) w := by
  unfold QR execOp
  rw [ho]
  obtain ⟨inf, hinf, hsz⟩ := Option.map_eq_some_iff.1 hs
  subst hz hsz
  simp [hx, hi, Instr.indexAt, asIntOf, run_underlying ht, hb, sizeOf, typeInfo, hinf, Addr.add_off]
theorem QR.ixA {o : Oper} {t e : TypeId} {x ix : Operand} {b off len : Nat} {ik : IntKind} {i : Int} (off' sz : Nat) (ho : o.op = .indexAddr t x ix) (hx : ev n F x = .pointer (some ⟨b, off, none⟩)) (hi : ev n F ix = .int ik i)
    (ht : P.underlying t = some (.array len e)) (hs : (P.info? e).map (·.size) = some sz) (hb : 0 ≤ i ∧ i < len) (hz : off + i.toNat * sz = off') : QR P n F o (.pointer (some ⟨b, off', none⟩)) w := by
  unfold QR execOp
  rw [ho]
  obtain ⟨inf, hinf, hsz⟩ := Option.map_eq_some_iff.1 hs
  subst hz hsz
  simp [hx, hi, Instr.indexAt, Instr.sureAddr, asIntOf, run_underlying ht, hb, sizeOf, typeInfo, hinf, Addr.add_off]
theorem QR.len {o : Oper} {t e : TypeId} {x : Operand} {a : Option Addr} {len cap : Nat} (ho : o.op = .call { callee := .builtin .len, args := #[x], argTypes := #[t] }) (hx : ev n F x = .slice a len cap) (ht : P.underlying t = some (.slice e)) : QR P n F o (.int .i64 len) w := by
  unfold QR execOp
  rw [ho]
  simp [resolve, invoke, builtin, Builtin.len_, hx, run_underlying ht, goInt]
theorem QR.fn {o : Oper} {fn : Fn} {l1 l2 : List Operand} (v1 v2 : List Value) (ho : o.op = .makeFunc fn l1.toArray l2.toArray) (h1 : l1.map (ev n F) = v1) (h2 : l2.map (ev n F) = v2) : QR P n F o (.func fn v1.toArray v2.toArray) w := by
  unfold QR execOp
  rw [ho]
  simp [Instr.makeFunc, ← h1, ← h2]

end
end K
end Go.Proofs.Ytcmlompigmhddaa
