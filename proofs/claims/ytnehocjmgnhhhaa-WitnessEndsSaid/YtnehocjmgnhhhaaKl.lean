import Derived.Test.YtnehocjmgnhhhaaProg
import Derived.WalkKit
import Derived.OrdersHeld
import Derived.KernelRfl
import Derived.OrdersIn
import Derived.TacticsIn
import Derived.RangeFuncLeaves
import Derived.RangeFuncRecord
/- A small step logic for the walks of this claim: a function's slots as a function from numbers to values, one lemma for each kind of operation. -/
namespace Go.Proofs.Ytnehocjmgnhhhaa
open Go.RowKit
namespace K
abbrev pa (p : Nat) : Value := .pointer (some ⟨p, 0, none⟩)
abbrev iv (x : Int) : Value := .int .i64 x
abbrev Fr := Nat → Value
def upd (F : Fr) (d : Nat) (v : Value) : Fr := fun t => bif Nat.beq t d then v else F t
def updo (F : Fr) : Option Nat → Value → Fr
  | some d, v => upd F d v
  | none, _ => F
def arr (n : Nat) (F : Fr) : Array Value := ((List.range n).map F).toArray
def dOf : Value → List Deferred
  | .int _ k => [{ target := .collected k.toNat, args := #[] }]
  | _ => []
def fr (n : Nat) (F : Fr) : Act := ⟨arr n F, dOf (F n)⟩
def dok (n : Nat) : Option Nat → Bool
  | some d => Nat.blt d n
  | none => true
def ev (n : Nat) (F : Fr) : Operand → Value
  | .tmp t => bif Nat.blt t n then F t else undef
  | .const v => v
  | .global g => .pointer (some ⟨g, 0, none⟩)
  | .func f => .func (.func f) #[] #[]
theorem arr_getD (n : Nat) (F : Fr) (t : Nat) : (arr n F).getD t undef = bif Nat.blt t n then F t else undef := by
  by_cases h : t < n
  · have h' : Nat.blt t n = true := by simpa [Nat.blt_eq] using h
    simp [arr, h, h']
  · have : Nat.blt t n = false := by simpa [Bool.eq_false_iff, Nat.blt_eq] using h
    simp [arr, h, this]
theorem arr_get? (n : Nat) (F : Fr) (t : Nat) (h : t < n) : (arr n F)[t]? = some (F t) := by simp [arr, h]
theorem eval_fr (n : Nat) (F : Fr) : (fr n F).eval = ev n F := by
  funext x
  cases x with
  | tmp t => exact arr_getD n F t
  | _ => rfl
theorem put_fr (n : Nat) (F : Fr) (d : Option Nat) (v : Value) (hok : dok n d = true) : (fr n F).put d v = fr n (updo F d v) := by
  cases d with
  | none => rfl
  | some d =>
    have hdn : d < n := by simpa [dok, Nat.blt_eq] using hok
    have hD : upd F d v n = F n := by
      have : Nat.beq n d = false := by rw [Bool.eq_false_iff]; intro h; have := Nat.eq_of_beq_eq_true h; omega
      simp [upd, this]
    simp only [Act.put, fr, updo, hD]
    congr 1
    apply Array.ext (by simp [arr])
    intro i h1 h2
    have hi : i < n := by simpa [arr] using h2
    by_cases hd : d = i
    · subst hd
      simp [arr, upd]
    · have hd' : Nat.beq i d = false := by
        rw [Bool.eq_false_iff]; intro h; exact hd (Nat.eq_of_beq_eq_true h).symm
      simp [arr, upd, hd, hd']
def lq (n : Nat) (Q : Exit → Fr → World → Prop) : Exit → Act → World → Prop
  | .panic _, _, _ => False
  | .outgrown, _, _ => False
  | e, a, w => ∃ G, a = fr n G ∧ Q e G w
theorem lq_normal {n : Nat} {Q : Exit → Fr → World → Prop} {F : Fr} {w : World} (h : Q .normal F w) : lq n Q .normal (fr n F) w := ⟨F, rfl, h⟩
def fe (ρ : Option Nat) : Fence := { fn := fun _ => True, depth := none, alive := false, round := ρ }
def KW (ρ : Option Nat) (P : Program) (n : Nat) (c : Code) (Q : Exit → Fr → World → Prop) (F : Fr) (w : World) : Prop := c.wpIn (fe ρ) 0 P (lq n Q) (fr n F) w
def KC (P : Program) (f : FuncId) (args : Array Value) (w : World) (R : Value → World → Prop) : Prop :=
  Calls P f args w fun e w' => ∃ v, e = .returned v ∧ R v w'
theorem KC.mono {P : Program} {f : FuncId} {args : Array Value} {w : World} {R R' : Value → World → Prop} (h : KC P f args w R) (hr : ∀ v w', R v w' → R' v w') : KC P f args w R' :=
  Calls.mono h fun _ _ ⟨v, he, hR⟩ => ⟨v, he, hr _ _ hR⟩
def argF (l : List Value) : Fr := fun t => l.getD t undef
section
variable {ρ : Option Nat} {P : Program} {n : Nat} {Q : Exit → Fr → World → Prop} {F : Fr} {w : World}
theorem argF_fr {args : Array Value} {fn : Func} (l : List Value) (ha : args = l.toArray) (hn : fn.ntmps = n) (hl : l.length ≤ n) : ({ tmps := args ++ Array.replicate (fn.ntmps - args.size) undef, defers := [] } : Act) = fr n (argF l) := by
  subst ha hn
  have hD : argF l fn.ntmps = undef := by simp [argF, List.getElem?_eq_none hl]
  simp only [fr, hD, dOf, undef]
  congr 1
  apply Array.ext (by simp [arr]; omega)
  intro i h1 h2
  simp only [arr] at h2 ⊢
  by_cases hi : i < l.length
  · simp [argF, hi]
  · have hi' : l.length ≤ i := by omega
    simp [argF, hi', Array.getElem_append_right, undef]
theorem KC.mk {f : FuncId} {fn : Func} {c : Code} {args : Array Value} {R : Value → World → Prop} (hf : P.funcs[f]? = some fn) (hb : fn.body = some c) (hn : fn.ntmps = n) (l : List Value) (ha : args = l.toArray) (hl' : Nat.ble l.length n = true)
    (h : KW none P n c (fun e G w' => (e = .normal ∨ e = .ret) ∧ G n = undef ∧ ∃ v, (results fn (arr n G)).run P w' = .ok v w' ∧ R v w') (argF l) w) : KC P f args w R := by
  have hl : l.length ≤ n := Nat.le_of_ble_eq_true hl'
  refine calls_of_wp hf hb ?_
  have he : ({ tmps := args ++ Array.replicate (fn.ntmps - args.size) undef, defers := [] } : Act) = fr n (argF l) := argF_fr l ha hn hl
  rw [he]
  refine wp_mono (wpIn_wide.1 h) ?_
  intro e a w' hq
  cases e with
  | panic => exact hq.elim
  | outgrown => exact hq.elim
  | normal => obtain ⟨G, rfl, _, hD, v, hr, hR⟩ := hq; exact ⟨by simp [fr, hD, dOf, undef], v, hr, v, rfl, hR⟩
  | ret => obtain ⟨G, rfl, _, hD, v, hr, hR⟩ := hq; exact ⟨by simp [fr, hD, dOf, undef], v, hr, v, rfl, hR⟩
  | exit => obtain ⟨G, rfl, h, _⟩ := hq; simp at h
  | goto => obtain ⟨G, rfl, h, _⟩ := hq; simp at h
structure Turn (l : Nat) (w w' : World) : Prop where
  os : w'.os = w.os
  tape : w'.tape = w.tape
  output : w'.output = w.output
  size : w'.heap.size = w.heap.size
  block : ∀ k, k ≠ l → w'.heap[k]? = w.heap[k]?
theorem Turn.put (w : World) (l : Nat) (o : Obj) : Turn l w (w.putObj l o) :=
  ⟨rfl, rfl, rfl, by simp [World.putObj], fun k hk => by show (w.heap.setIfInBounds l o)[k]? = _; rw [Array.getElem?_setIfInBounds, if_neg (fun e => hk e.symm)]⟩
theorem KC.mkD {f : FuncId} {fn : Func} {c : Code} {args : Array Value} {R : Value → World → Prop} (hf : P.funcs[f]? = some fn) (hb : fn.body = some c) (hn : fn.ntmps = n) (l : List Value) (ha : args = l.toArray) (hl' : Nat.ble l.length n = true)
    (h : KW none P n c (fun e G w' => (e = .normal ∨ e = .ret) ∧ ((G n = undef ∧ ∃ v, (results fn (arr n G)).run P w' = .ok v w' ∧ R v w') ∨
      (∃ r : Nat, G n = .int .i64 r ∧ w'.heap[r]? = some (.deferred (some [])) ∧ ∀ w2, Turn r w' w2 → ∃ v, (results fn (arr n G)).run P w2 = .ok v w2 ∧ R v w2))) (argF l) w) : KC P f args w R := by
  have hl : l.length ≤ n := Nat.le_of_ble_eq_true hl'
  refine (callsIn_wide (n := 0)).1 (callsIn_of_wp_marks hf hb trivial ?_ rfl)
  have he : ({ tmps := args ++ Array.replicate (fn.ntmps - args.size) undef, defers := [] } : Act) = fr n (argF l) := argF_fr l ha hn hl
  rw [he]
  refine wpIn_mono h ?_
  have fin : ∀ G w', ((G n = undef ∧ ∃ v, (results fn (arr n G)).run P w' = .ok v w' ∧ R v w') ∨
      (∃ r : Nat, G n = .int .i64 r ∧ w'.heap[r]? = some (.deferred (some [])) ∧ ∀ w2, Turn r w' w2 → ∃ v, (results fn (arr n G)).run P w2 = .ok v w2 ∧ R v w2)) →
      LeavesInM Fence.wide 0 P fn (fr n G).tmps (fun e w' => ∃ v, e = .returned v ∧ R v w') (fr n G).defers .returning w' := by
    intro G w' h
    rcases h with ⟨hD, v, hr, hR⟩ | ⟨r, hD, hk, h2⟩
    · have : (fr n G).defers = [] := by simp [fr, hD, dOf, undef]
      rw [this]
      exact ⟨v, hr, v, rfl, hR⟩
    · have : (fr n G).defers = [{ target := .collected r, args := #[] }] := by simp [fr, hD, dOf]
      rw [this]
      obtain ⟨v, hr, hR⟩ := h2 _ (Turn.put w' r (.deferred none))
      exact ⟨by simp, .inl ⟨r, _, rfl, run_takeDeferred hk, ⟨v, hr, v, rfl, hR⟩⟩⟩
  intro e a w' hq
  cases e with
  | panic => exact hq.elim
  | outgrown => exact hq.elim
  | normal => obtain ⟨G, rfl, _, h⟩ := hq; exact fin G w' h
  | ret => obtain ⟨G, rfl, _, h⟩ := hq; exact fin G w' h
  | exit => obtain ⟨G, rfl, h, _⟩ := hq; simp at h
  | goto => obtain ⟨G, rfl, h, _⟩ := hq; simp at h
theorem KW.mono {c : Code} {Q' : Exit → Fr → World → Prop} (h : KW ρ P n c Q F w) (hq : ∀ e F w, Q e F w → Q' e F w) : KW ρ P n c Q' F w :=
  wpIn_mono h fun e a w' h => by
    cases e <;> first | exact h | (obtain ⟨G, rfl, h⟩ := h; exact ⟨G, rfl, hq _ _ _ h⟩)
def thn (K : Fr → World → Prop) (Q : Exit → Fr → World → Prop) : Exit → Fr → World → Prop
  | .normal, F, w => K F w
  | e, F, w => Q e F w
def blk (id : Nat) (Q : Exit → Fr → World → Prop) : Exit → Fr → World → Prop
  | .exit i, F, w => bif Nat.beq i id then Q .normal F w else Q (.exit i) F w
  | e, F, w => Q e F w
theorem thn_exit {K : Fr → World → Prop} {i : Nat} (h : Q (.exit i) F w) : thn K Q (.exit i) F w := h
theorem blk_normal {id : Nat} (h : Q .normal F w) : blk id Q .normal F w := h
theorem blk_ret {id : Nat} (h : Q .ret F w) : blk id Q .ret F w := h
theorem blk_hit {id : Nat} (h : Q .normal F w) : blk id Q (.exit id) F w := by
  show bif Nat.beq id id then _ else _
  rw [show Nat.beq id id = true from Nat.beq_refl id]; exact h
theorem blk_miss {i id : Nat} (hi : Nat.beq i id = false) (h : Q (.exit i) F w) : blk id Q (.exit i) F w := by
  show bif Nat.beq i id then _ else _
  rw [hi]; exact h
def puts (F : Fr) : List (Nat × Value) → Fr
  | [] => F
  | (d, v) :: l => upd (puts F l) d v
theorem upd_self {d : Nat} {v : Value} (h : F d = v) : upd F d v = F := by
  funext t
  simp only [upd]
  by_cases e : t = d
  · subst e; rw [show Nat.beq t t = true from Nat.beq_refl t]; exact h.symm
  · rw [show Nat.beq t d = false by rw [Bool.eq_false_iff]; intro h; exact e (Nat.eq_of_beq_eq_true h)]; rfl
def Sl (F : Fr) : List (Nat × Value) → Prop
  | [] => True
  | (d, v) :: l => F d = v ∧ Sl F l
theorem Sl.puts : ∀ {l : List (Nat × Value)}, Sl F l → puts F l = F
  | [], _ => rfl
  | (d, v) :: l, ⟨h1, h2⟩ => by
    show upd (K.puts F l) d v = F
    rw [Sl.puts h2]; exact upd_self h1
theorem KW.seq {x y : Code} (h : KW ρ P n x (thn (KW ρ P n y Q) Q) F w) : KW ρ P n (.seq x y) Q F w := by
  refine wpIn_seq (wpIn_mono h ?_)
  intro e a w' hq
  cases e <;> first | exact hq.elim | (obtain ⟨G, rfl, h⟩ := hq; first | exact h | exact ⟨G, rfl, h⟩)
theorem KW.skip (h : Q .normal F w) : KW ρ P n .skip Q F w := wpIn_skip ⟨F, rfl, h⟩
theorem KW.ret (h : Q .ret F w) : KW ρ P n .ret Q F w := wpIn_ret ⟨F, rfl, h⟩
theorem KW.exit {id : Nat} (h : Q (.exit id) F w) : KW ρ P n (.exit id) Q F w := wpIn_exit ⟨F, rfl, h⟩
theorem KW.label {l : Nat} (h : Q .normal F w) : KW ρ P n (.label l) Q F w := wpIn_label ⟨F, rfl, h⟩
theorem KW.ifT {c : Operand} {x y : Code} (hc : ev n F c = .bool true) (h : KW ρ P n x Q F w) : KW ρ P n (.cond c x y) Q F w :=
  wpIn_cond_true (by rw [eval_fr]; exact hc) h
theorem KW.ifF {c : Operand} {x y : Code} (hc : ev n F c = .bool false) (h : KW ρ P n y Q F w) : KW ρ P n (.cond c x y) Q F w :=
  wpIn_cond_false (by rw [eval_fr]; exact hc) h
theorem KW.block {id : Nat} {c : Code} (h : KW ρ P n c (blk id Q) F w) : KW ρ P n (.block id c) Q F w := by
  refine wpIn_block (wpIn_mono h ?_)
  intro e a w' hq
  cases e with
  | panic => exact hq.elim
  | outgrown => exact hq.elim
  | exit i =>
    obtain ⟨G, rfl, h⟩ := hq
    simp only [blk] at h
    simp only [Exit.inBlock]
    by_cases hi : i = id
    · subst hi
      rw [if_pos rfl]
      have : Nat.beq i i = true := Nat.beq_refl i
      rw [this] at h
      exact ⟨G, rfl, h⟩
    · rw [if_neg hi]
      have : Nat.beq i id = false := by rw [Bool.eq_false_iff]; intro h; exact hi (Nat.eq_of_beq_eq_true h)
      rw [this] at h
      exact ⟨G, rfl, h⟩
  | normal => obtain ⟨G, rfl, h⟩ := hq; exact ⟨G, rfl, h⟩
  | ret => obtain ⟨G, rfl, h⟩ := hq; exact ⟨G, rfl, h⟩
  | goto l => obtain ⟨G, rfl, h⟩ := hq; exact ⟨G, rfl, h⟩
theorem KW.loop {c : Code} (I : Nat → Fr → World → Prop) (m : Nat) (h0 : I m F w)
    (hr : ∀ m F w, I m F w → KW ρ P n c (thn (fun G w' => ∃ m', m' < m ∧ I m' G w') Q) F w) : KW ρ P n (.loop c) Q F w := by
  intro b k cs hro hb hroom
  have key : ∀ m F w, I m F w → ∃ e a' w', lq n Q e a' w' ∧ ArrivesIn (Machine.fenced P (fe ρ)) P (lone (b.atR (fr n F) (.code c :: .inLoop c :: k)) cs w) b k cs e a' w' := by
    intro m
    induction m using Nat.strongRecOn with
    | _ m ih =>
      intro F w hI
      obtain ⟨e, a₁, w₁, hq, harr⟩ := hr m F w hI b (.inLoop c :: k) cs hro hb hroom
      cases e with
      | normal =>
        obtain ⟨G, rfl, m', hm, hI'⟩ := hq
        obtain ⟨e₂, a₂, w₂, hq₂, harr₂⟩ := ih m' hm G w₁ hI'
        exact ⟨e₂, a₂, w₂, hq₂, .of_steps (StepsIn.trans harr (.one (fenced_calm hb hroom rfl) stepR_inLoop)) harr₂⟩
      | exit id => obtain ⟨G, rfl, hq⟩ := hq; exact ⟨.exit id, _, w₁, ⟨G, rfl, hq⟩, .pass (x := .inLoop c) rfl (fun _ _ => .inl (by simp)) harr⟩
      | goto l => obtain ⟨G, rfl, hq⟩ := hq; exact ⟨.goto l, _, w₁, ⟨G, rfl, hq⟩, .pass (x := .inLoop c) rfl (fun _ _ => .inl (by simp)) harr⟩
      | ret => obtain ⟨G, rfl, hq⟩ := hq; exact ⟨.ret, _, w₁, ⟨G, rfl, hq⟩, .pass (x := .inLoop c) rfl (fun _ _ => .inl (by simp)) harr⟩
      | panic ch => exact hq.elim
      | outgrown => exact hq.elim
  obtain ⟨e, a', w', hq, harr⟩ := key m F w h0
  exact ⟨e, a', w', hq, .of_steps (.one (fenced_calm hb hroom rfl) stepR_loop) harr⟩
/-! ### Regions -/
def RW (P : Program) (n : Nat) (ops : Array Oper) (l : List Oper) (Q : Exit → Fr → World → Prop) (F : Fr) (w : World) : Prop := wpList P ops (lq n Q) l (fr n F) w
def QR (P : Program) (n : Nat) (F : Fr) (o : Oper) (v : Value) (w : World) : Prop := (execOp (ev n F) o).run P w = .ok (.value v) w
def OW (P : Program) (n : Nat) (F : Fr) (o : Oper) (w : World) (K : Fr → World → Prop) : Prop :=
  dok n o.dst = true → ∀ Q : Exit → Act → World → Prop, o.wp P (fr n F) w (fun a w' => ∃ G, a = fr n G ∧ K G w') Q
def gdw (ops : Array Oper) (n : Nat) (F : Fr) (o : Oper) : Bool :=
  match o.guard with
  | none => true
  | some (j, want) => match (ops[j]?).bind (·.dst) with
    | some t => match ev n F (.tmp t) with
      | .bool b => b == want
      | _ => false
    | none => false
def gd (ops : Array Oper) (n : Nat) (F : Fr) (o : Oper) : Bool := gdw ops n F o && dok n o.dst
def gs (ops : Array Oper) (n : Nat) (F : Fr) (o : Oper) : Bool := !gdw ops n F o && dok n o.dst
theorem wanted_fr (ops : Array Oper) (n : Nat) (F : Fr) (o : Oper) : Region.wanted o (yielded ops (fr n F).tmps) = gdw ops n F o := by
  unfold Region.wanted gdw
  cases o.guard with
  | none => rfl
  | some g =>
    obtain ⟨j, want⟩ := g
    simp only [yielded]
    cases (ops[j]?).bind (·.dst) with
    | none => rfl
    | some t =>
      simp only [Option.bind_some, ev]
      by_cases h : t < n
      · have h' : Nat.blt t n = true := by simpa [Nat.blt_eq] using h
        rw [show (fr n F).tmps[t]? = some (F t) from arr_get? n F t h, h']
        cases F t <;> simp [undef]
      · have h' : Nat.blt t n = false := by simpa [Bool.eq_false_iff, Nat.blt_eq] using h
        have hle : n ≤ t := Nat.le_of_not_lt h
        have hn : (fr n F).tmps[t]? = none := Array.getElem?_eq_none (by simpa [fr, arr] using hle)
        rw [hn, h']
        simp [undef]
theorem gd_spec {ops : Array Oper} {o : Oper} (h : gd ops n F o = true) : gdw ops n F o = true ∧ dok n o.dst = true := by simpa [gd] using h
theorem gs_spec {ops : Array Oper} {o : Oper} (h : gs ops n F o = true) : gdw ops n F o = false ∧ dok n o.dst = true := by simpa [gs] using h
/-! ### From a region's own judgement to the code's, in a round or in none -/
def ndo (o : Oper) : Bool := match o.op with | .defer _ => false | _ => true
def ndf (l : List Oper) : Bool := l.all ndo
theorem ndo_spec {o : Oper} (h : ndo o = true) : ∀ c, o.op ≠ .defer c := fun c hc => by simp [ndo, hc] at h
theorem Oper.wpIn_of_wp {o : Oper} {a : Act} {K : Act → World → Prop} (hd : ndo o = true) (h : o.wp P a w K (lq n Q)) : o.wpIn (fe ρ) 0 P a w K (lq n Q) := by
  refine ⟨fun _ _ => trivial, ?_⟩
  have : o.semAt (fe ρ).round a.eval = execOp a.eval o := Oper.semAt_eq _ _ _ (ndo_spec hd)
  rw [this]
  have hN : ¬ LetsOut (lq n Q) := fun ⟨_, _, h⟩ => h
  unfold Oper.wp at h
  generalize (execOp a.eval o).run P w = r at *
  cases r with
  | ok x w' =>
    cases x <;> simp only [Oper.upon] at h <;> simp only [Oper.uponIn] <;> first | exact h | skip
    case enter f args => exact ⟨(fun h => by cases h), (callsIn_wide (n := 0)).2 h⟩
    case row row args => exact ⟨(fun h => by cases h), fun c cs _ => let ⟨v, w', r, s⟩ := h c cs; ⟨v, w', r, stepsIn_wide.2 s⟩⟩
  | halt x w' => cases x <;> simp only [Oper.upon] at h <;> simp only [Oper.uponIn] <;> exact h
theorem wpListIn_of {ops : Array Oper} : ∀ (l : List Oper) (a : Act) (w : World), ndf l = true → wpList P ops (lq n Q) l a w → wpListIn (fe ρ) 0 P ops (lq n Q) l a w
  | [], _, _, _, h => h
  | o :: l, a, w, hd, h => by
    have hd' : ndo o = true ∧ ndf l = true := by simpa [ndf] using hd
    unfold wpList at h
    unfold wpListIn
    split
    · rename_i hw
      rw [if_pos hw] at h
      rcases h with h | ⟨_, _, _, h⟩
      · exact Go.Oper.wpIn_mono (fun a w h => wpListIn_of l a w hd'.2 h) (Oper.wpIn_of_wp hd'.1 h)
      · exact h.elim
    · rename_i hw
      rw [if_neg hw] at h
      exact ⟨fun _ _ => trivial, wpListIn_of l _ w hd'.2 h⟩
theorem wpOpIn_of {ops : Array Oper} (hd : ndf ops.toList = true) {i : Nat} {K : Act → World → Prop} {a : Act} (h : wpOp P ops (lq n Q) i K a w) : wpOpIn (fe ρ) 0 P ops (lq n Q) i K a w := by
  unfold wpOp at h
  unfold wpOpIn
  cases hi : ops[i]? with
  | none => simpa [hi] using h
  | some o =>
    simp only [hi] at h ⊢
    have ho : ndo o = true := by
      have hm : o ∈ ops.toList := by rw [← Array.getElem?_toList] at hi; exact List.mem_of_getElem? hi
      exact List.all_eq_true.1 hd o hm
    split
    · rename_i hw
      rw [if_pos hw] at h
      rcases h with h | ⟨_, _, _, h⟩
      · exact Oper.wpIn_of_wp ho h
      · exact h.elim
    · rename_i hw
      rw [if_neg hw] at h
      exact ⟨fun _ _ => trivial, h⟩
theorem wpAnyIn_of {md : Region.Mode} {ops : Array Oper} (hd : ndf ops.toList = true) : ∀ (fuel : Nat) (listed : Array Bool) (a : Act) (w : World), wpAny P md ops (lq n Q) fuel listed a w → wpAnyIn (fe ρ) 0 P md ops (lq n Q) fuel listed a w
  | 0, _, _, _, h => h
  | fuel + 1, _, _, _, h => ⟨h.1, fun i hi => wpOpIn_mono (fun a w h => wpAnyIn_of hd fuel _ a w h) (wpOpIn_of hd (h.2 i hi))⟩
theorem KW.region {id : Nat} {l : List Oper} (h : RW P n l.toArray l Q F w) (hd : ndf l = true := by rfl) : KW ρ P n (.region id l.toArray false) Q F w := wpIn_region_lit (wpListIn_of l _ _ hd h)
theorem RW.nil {ops : Array Oper} (h : Q .normal F w) : RW P n ops [] Q F w := wpList_nil (lq_normal h)
theorem OW.q {o : Oper} {v : Value} {d : Option Nat} {K : Fr → World → Prop} (hd : o.dst = d) (hq : QR P n F o v w) (h : K (updo F d v) w) : OW P n F o w K := fun hok Q => by
  subst hd
  unfold Oper.wp
  unfold QR at hq
  rw [eval_fr, hq]
  exact ⟨_, put_fr n F o.dst v hok, h⟩
theorem RW.l {ops : Array Oper} {o : Oper} {rest : List Oper} (hg : gd ops n F o = true) (h : OW P n F o w (RW P n ops rest Q)) : RW P n ops (o :: rest) Q F w := by
  obtain ⟨hg, hok⟩ := gd_spec hg
  unfold RW wpList
  rw [wanted_fr, if_pos hg]
  refine .inl (Oper.wp_mono ?_ (h hok _))
  rintro a w' ⟨G, rfl, h⟩
  exact h
theorem RW.q {ops : Array Oper} {o : Oper} {rest : List Oper} {v : Value} {d : Option Nat} (hd : o.dst = d) (hg : gd ops n F o = true) (hq : QR P n F o v w) (h : RW P n ops rest Q (updo F d v) w) : RW P n ops (o :: rest) Q F w :=
  RW.l hg (OW.q hd hq h)
theorem RW.skip {ops : Array Oper} {o : Oper} {rest : List Oper} {d : Option Nat} (hd : o.dst = d) (hg : gs ops n F o = true) (h : RW P n ops rest Q (updo F d undef) w) : RW P n ops (o :: rest) Q F w := by
  subst hd
  obtain ⟨hg, hok⟩ := gs_spec hg
  unfold RW wpList
  rw [wanted_fr, if_neg (by rw [hg]; simp), put_fr _ _ _ _ hok]
  exact h
/-! ### Regions that draw their order: what the kit's 'held' walk asks behind each operation is not asked behind one that waits for all others -/
def aft (ops : Array Oper) (i : Nat) : List Nat := match ops[i]? with
  | some o => (o.after.toList.filter (Region.binds .any ·)).map (·.on)
  | none => []
def upL (ops : Array Oper) : Nat → List Nat → List Nat
  | 0, l => l
  | f + 1, l => upL ops f (l ++ (l.flatMap (aft ops)).filter fun m => !(l.any (Nat.beq · m)))
def lastOp (ops : Array Oper) (i : Nat) : Bool := (List.range ops.size).all fun k => Nat.beq k i || ((aft ops i).any (fun m => Nat.beq m k || (aft ops m).any (Nat.beq · k)) || (upL ops 8 (aft ops i)).any (Nat.beq · k))
def shutL (ops : Array Oper) (listed : Array Bool) : Bool := (List.range ops.size).all fun k => !(listed.getD k false) || (aft ops k).all fun m => listed.getD m false
theorem aft_listed {ops : Array Oper} {listed : Array Bool} {k : Nat} (hc : shutL ops listed = true) (hk : listed.getD k false = true) : ∀ m ∈ aft ops k, listed.getD m false = true := by
  intro m hm
  have hlt : k < ops.size := by
    rcases Nat.lt_or_ge k ops.size with h | h
    · exact h
    · unfold aft at hm; rw [Array.getElem?_eq_none h] at hm; cases hm
  have := List.all_eq_true.1 hc k (by simpa using hlt)
  rw [hk, Bool.not_true, Bool.false_or] at this
  exact List.all_eq_true.1 this m hm
theorem aft_ready {ops : Array Oper} {listed : Array Bool} {j : Nat} (hj : j ∈ Region.ready .any ops listed) : ∀ m ∈ aft ops j, listed.getD m false = true := by
  obtain ⟨_, oj, hoj, hall⟩ := mem_ready.1 hj
  intro m hm
  unfold aft at hm
  rw [hoj] at hm
  obtain ⟨e, he, rfl⟩ := List.mem_map.1 hm
  have he := List.mem_filter.1 he
  exact hall e (Array.mem_toList_iff.1 he.1) he.2
theorem upL_listed {ops : Array Oper} {listed : Array Bool} (hc : shutL ops listed = true) : ∀ (f : Nat) (l : List Nat), (∀ m ∈ l, listed.getD m false = true) → ∀ m ∈ upL ops f l, listed.getD m false = true
  | 0, _, h => h
  | f + 1, l, h => upL_listed hc f _ fun m hm => by
    rcases List.mem_append.1 hm with hm | hm
    · exact h m hm
    · obtain ⟨q, hq, hm⟩ := List.mem_flatMap.1 (List.mem_filter.1 hm).1
      exact aft_listed hc (h q hq) m hm
theorem last_listed {ops : Array Oper} {listed : Array Bool} {i j : Nat} (hc : shutL ops listed = true) (hj : j ∈ Region.ready .any ops listed) (hl : lastOp ops j = true) (hi : i < ops.size) (hji : j ≠ i) : listed.getD i false = true := by
  have h2 := List.all_eq_true.1 hl i (by simpa using hi)
  simp only [Bool.or_eq_true] at h2
  rcases h2 with h2 | h2 | h2
  · exact absurd (Nat.eq_of_beq_eq_true h2).symm hji
  rotate_left
  · obtain ⟨m, hm, h3⟩ := List.any_eq_true.1 h2
    rw [← Nat.eq_of_beq_eq_true h3]
    exact upL_listed hc 8 _ (aft_ready hj) m hm
  · obtain ⟨m, hm, h3⟩ := List.any_eq_true.1 h2
    have h4 := aft_ready hj m hm
    simp only [Bool.or_eq_true] at h3
    rcases h3 with h3 | h3
    · rw [← Nat.eq_of_beq_eq_true h3]; exact h4
    · obtain ⟨q, hq, h5⟩ := List.any_eq_true.1 h3
      rw [← Nat.eq_of_beq_eq_true h5]; exact aft_listed hc h4 q hq
theorem shut_set {ops : Array Oper} {listed : Array Bool} {j : Nat} (hc : shutL ops listed = true) (hj : j ∈ Region.ready .any ops listed) : shutL ops (listed.setIfInBounds j true) = true := by
  refine List.all_eq_true.2 fun k hk => ?_
  by_cases hjk : j = k
  · subst hjk
    simp only [Bool.or_eq_true]
    exact .inr (List.all_eq_true.2 fun m hm => getD_set_true (aft_ready hj m hm))
  · rw [getD_set_ne false hjk]
    cases hl : listed.getD k false with
    | false => rfl
    | true => simp only [Bool.not_true, Bool.false_or]; exact List.all_eq_true.2 fun m hm => getD_set_true (aft_listed hc hl m hm)
def wpAnyG (P : Program) (ops : Array Oper) (Q : Exit → Act → World → Prop) (S : World → Prop) : Nat → Array Bool → Act → World → Prop
  | 0, listed, a, w => Region.ready .any ops listed = [] ∧ Q .normal a w
  | fuel + 1, listed, a, w =>
    (Region.ready .any ops listed = [] → Q .normal a w) ∧
    ∀ i ∈ Region.ready .any ops listed, wpOp P ops Q i (fun a' w' => (S w' ∨ lastOp ops i = true) ∧ wpAnyG P ops Q S fuel (listed.setIfInBounds i true) a' w') a w
section
variable {ops : Array Oper} {QA : Exit → Act → World → Prop} {S : World → Prop}
theorem wpAny_of_G : ∀ (fuel : Nat) (listed : Array Bool) (a : Act) (w : World), wpAnyG P ops QA S fuel listed a w → wpAny P .any ops QA fuel listed a w
  | 0, _, _, _, h => h
  | fuel + 1, _, _, _, h => ⟨h.1, fun i hi => wpOp_mono (fun a' w' h' => wpAny_of_G fuel _ a' w' h'.2) (h.2 i hi)⟩
theorem wpAnyG_first {i : Nat} {oi : Oper} {v : Value} (hi : ops[i]? = some oi) (hsel : ∀ (j : Nat) (o : Oper) cs b, ops[j]? = some o → o.op ≠ .select cs b)
    (hQ : ∀ c a w, QA (.panic c) (a.put oi.dst v) w → QA (.panic c) a w) :
    ∀ (fuel : Nat) (listed : Array Bool) (a : Act) (w : World),
      (∀ j oj, ops[j]? = some oj → j ≠ i → listed.getD j true = false → (∀ e ∈ oj.after, Region.binds .any e = true → e.on ≠ i) → oi.apart ops oj = true) →
      shutL ops listed = true → i ∈ Region.ready .any ops listed → YieldsIf P ops S oi v a → S w →
      wpAnyG P ops QA S fuel (listed.setIfInBounds i true) (a.put oi.dst v) w → wpAnyG P ops QA S (fuel + 1) listed a w := by
  intro fuel
  induction fuel with
  | zero =>
    intro listed a w _ _ hr hy hS H
    refine ⟨fun h => (by rw [h] at hr; cases hr), fun j hj => ?_⟩
    by_cases hji : j = i
    · subst hji; exact hy.wpOp hi hS ⟨.inl hS, H⟩
    · have := ready_mono hj hji
      rw [H.1] at this
      cases this
  | succ fuel ih =>
    intro listed a w hfree hcl hr hy hS H
    refine ⟨fun h => (by rw [h] at hr; cases hr), fun j hj => ?_⟩
    by_cases hji : j = i
    · subst hji; exact hy.wpOp hi hS ⟨.inl hS, H⟩
    · have h1 := H.2 j (ready_mono hj hji)
      obtain ⟨hjun, oj, hoj, hall⟩ := mem_ready.1 hj
      have hnot : ∀ e ∈ oj.after, Region.binds .any e = true → e.on ≠ i := fun e he hb heq => by
        have h1 := hall e he hb
        have h0 := (mem_ready.1 hr).1
        rw [heq] at h1
        rcases Nat.lt_or_ge i listed.size with h' | h'
        · simp [h'] at h0 h1; rw [h0] at h1; cases h1
        · simp [Array.getElem?_eq_none h'] at h1
      have hlast : lastOp ops j = false := by
        cases hl : lastOp ops j with
        | false => rfl
        | true =>
          exfalso
          have hin : i < ops.size := by
            rcases Nat.lt_or_ge i ops.size with h | h
            · exact h
            · rw [Array.getElem?_eq_none h] at hi; cases hi
          have h1 := last_listed hcl hj hl hin hji
          have h0 := (mem_ready.1 hr).1
          rcases Nat.lt_or_ge i listed.size with h' | h'
          · simp [h'] at h0 h1; rw [h0] at h1; cases h1
          · simp [Array.getElem?_eq_none h'] at h1
      have h2 := wpOp_putIf hoj (hfree j oj hoj hji hjun hnot) (fun cs b => hsel i oi cs b hi) (fun cs b => hsel j oj cs b hoj) hQ hy h1
      have hfree' : ∀ k ok, ops[k]? = some ok → k ≠ i → (listed.setIfInBounds j true).getD k true = false →
          (∀ e ∈ ok.after, Region.binds .any e = true → e.on ≠ i) → oi.apart ops ok = true := fun k ok hk hki hun hno => by
        refine hfree k ok hk hki ?_ hno
        by_cases hjk : j = k
        · subst hjk; exact hjun
        · rw [getD_set_ne true hjk] at hun; exact hun
      refine wpOp_mono (fun a' w' h3 => ?_) h2
      have hS' : S w' := h3.2.1.resolve_right (by rw [hlast]; simp)
      refine ⟨.inl hS', ih (listed.setIfInBounds j true) a' w' hfree' (shut_set hcl hj) (ready_mono hr (Ne.symm hji)) h3.1 hS' ?_⟩
      rw [Array.setIfInBounds_comm _ _ hji]
      exact h3.2.2
theorem wpAnyG_take {i : Nat} {oi : Oper} {v : Value} {fuel : Nat} {listed : Array Bool} {a : Act} {w : World} (hi : ops[i]? = some oi)
    (hs : Region.noSelect ops = true) (hf : Region.free .any ops listed i = true) (hr : (Region.ready .any ops listed).contains i = true) (hcl : shutL ops listed = true)
    (hQ : ∀ c a w, QA (.panic c) (a.put oi.dst v) w → QA (.panic c) a w) (hy : YieldsIf P ops S oi v a) (hS : S w)
    (h : wpAnyG P ops QA S fuel (listed.setIfInBounds i true) (a.put oi.dst v) w) : wpAnyG P ops QA S (fuel + 1) listed a w :=
  wpAnyG_first hi (Region.noSelect_spec hs) hQ fuel listed a w (Region.free_spec hi hf) hcl (by simpa using hr) hy hS h
theorem wpAnyG_all {rs : List Nat} {fuel : Nat} {listed : Array Bool} {a : Act} {w : World} (hr : Region.ready .any ops listed = rs) (hne : rs ≠ [])
    (h : ∀ i ∈ rs, wpOp P ops QA i (fun a' w' => (S w' ∨ lastOp ops i = true) ∧ wpAnyG P ops QA S fuel (listed.setIfInBounds i true) a' w') a w) : wpAnyG P ops QA S (fuel + 1) listed a w :=
  ⟨fun h0 => absurd (hr ▸ h0) hne, hr ▸ h⟩
theorem wpAnyG_done {listed : Array Bool} {a : Act} {w : World} (hr : Region.ready .any ops listed = []) (h : QA .normal a w) :
    ∀ fuel, wpAnyG P ops QA S fuel listed a w
  | 0 => ⟨hr, h⟩
  | _ + 1 => ⟨fun _ => h, by rw [hr]; simp⟩
end
/-! ### The same, by slots -/
def DW (P : Program) (n : Nat) (ops : Array Oper) (S : World → Prop) (fuel : Nat) (listed : Array Bool) (Q : Exit → Fr → World → Prop) (F : Fr) (w : World) : Prop :=
  wpAnyG P ops (lq n Q) S fuel listed (fr n F) w
def canTake (ops : Array Oper) (listed : Array Bool) (i : Nat) : Bool := Region.free .any ops listed i && (Region.ready .any ops listed).contains i && shutL ops listed
theorem KW.drawnA {id : Nat} {l : List Oper} (S : World → Prop) (hm : P.follows .mixedOrders = true) (h : DW P n l.toArray S l.length (Array.replicate l.length false) Q F w.drew) (hd : ndf l = true := by rfl) : KW ρ P n (.region id l.toArray true) Q F w :=
  wpIn_region_any hm (wpAnyIn_of (by simpa using hd) _ _ _ _ (wpAny_of_G _ _ _ _ (by unfold DW at h; simpa using h)))
theorem lq_panic_put (n : Nat) (Q : Exit → Fr → World → Prop) (d : Option Nat) (v : Value) : ∀ (c : List PanicEntry) (a : Act) (w : World), lq n Q (.panic c) (a.put d v) w → lq n Q (.panic c) a w := fun _ _ _ h => h
theorem DW.q {ops : Array Oper} {S : World → Prop} {fuel : Nat} {listed : Array Bool} (i : Nat) {oi : Oper} {v : Value} {d : Option Nat} (hs : Region.noSelect ops = true) (hi : ops[i]? = some oi) (hd : oi.dst = d) (hc : canTake ops listed i = true)
    (hg : gd ops n F oi = true) (hq : ∀ w', S w' → QR P n F oi v w') (hS : S w) (h : DW P n ops S fuel (listed.setIfInBounds i true) Q (updo F d v) w) : DW P n ops S (fuel + 1) listed Q F w := by
  subst hd
  obtain ⟨hg, hok⟩ := gd_spec hg
  simp only [canTake, Bool.and_eq_true] at hc
  refine wpAnyG_take hi hs hc.1.1 hc.1.2 hc.2 (lq_panic_put n Q _ _) (.inl ⟨by rw [wanted_fr]; exact hg, fun w' hw' => by rw [eval_fr]; exact hq w' hw'⟩) hS ?_
  rw [put_fr _ _ _ _ hok]; exact h
theorem DW.skip {ops : Array Oper} {S : World → Prop} {fuel : Nat} {listed : Array Bool} (i : Nat) {oi : Oper} {d : Option Nat} (hs : Region.noSelect ops = true) (hi : ops[i]? = some oi) (hd : oi.dst = d) (hc : canTake ops listed i = true)
    (hg : gs ops n F oi = true) (hS : S w) (h : DW P n ops S fuel (listed.setIfInBounds i true) Q (updo F d undef) w) : DW P n ops S (fuel + 1) listed Q F w := by
  subst hd
  obtain ⟨hg, hok⟩ := gs_spec hg
  simp only [canTake, Bool.and_eq_true] at hc
  refine wpAnyG_take (v := undef) hi hs hc.1.1 hc.1.2 hc.2 (lq_panic_put n Q _ _) (.inr ⟨by rw [wanted_fr]; exact hg, rfl⟩) hS ?_
  rw [put_fr _ _ _ _ hok]; exact h
theorem DW.l {ops : Array Oper} {S : World → Prop} {fuel : Nat} {listed : Array Bool} (i : Nat) {oi : Oper} (hi : ops[i]? = some oi) (hr : Region.ready .any ops listed = [i]) (hg : gd ops n F oi = true)
    (h : OW P n F oi w (fun G w' => (S w' ∨ lastOp ops i = true) ∧ DW P n ops S fuel (listed.setIfInBounds i true) Q G w')) : DW P n ops S (fuel + 1) listed Q F w := by
  obtain ⟨hg, hok⟩ := gd_spec hg
  refine wpAnyG_all hr (by simp) ?_
  intro j hj
  simp only [List.mem_singleton] at hj
  subst hj
  unfold wpOp
  rw [hi]
  simp only []
  rw [wanted_fr, if_pos hg]
  refine .inl (Oper.wp_mono ?_ (h hok _))
  rintro a w' ⟨G, rfl, h⟩
  exact h
theorem DW.done {ops : Array Oper} {S : World → Prop} {fuel : Nat} {listed : Array Bool} (hr : Region.ready .any ops listed = []) (h : Q .normal F w) : DW P n ops S fuel listed Q F w :=
  wpAnyG_done hr (lq_normal h) _
/-! ### What an operation that only looks yields -/
theorem QR.k {o : Oper} {v : Value} (h : (execOp (ev n F) o).run P w = .ok (.value v) w) : QR P n F o v w := h
theorem QR.nice {o : Oper} {v v' : Value} (h : (execOp (ev n F) o).run P w = .ok (.value v) w) (e : v = v') : QR P n F o v' w := e ▸ h
theorem QR.n64 {o : Oper} (x z : Int) (h : (execOp (ev n F) o).run P w = .ok (.value (.int .i64 (IntKind.i64.wrap x))) w) (hz : x = z ∧ -9223372036854775808 ≤ z ∧ z ≤ 9223372036854775807) : QR P n F o (.int .i64 z) w :=
  QR.nice h (by obtain ⟨rfl, hz⟩ := hz; rw [IntWalk.i64_in x hz])
theorem QR.quoi64 {o : Oper} (x y z : Int) (h : (execOp (ev n F) o).run P w = .ok (.value (.int .i64 (IntKind.i64.wrap (x.tdiv y)))) w) (hx : 0 ≤ x ∧ x ≤ 9223372036854775807 ∧ 1 ≤ y) (hz : x / y = z) : QR P n F o (.int .i64 z) w :=
  QR.nice h (by rw [IntWalk.i64_quo x y hx, hz])
theorem QR.remi64 {o : Oper} (x y z : Int) (h : (execOp (ev n F) o).run P w = .ok (.value (.int .i64 (x.tmod y))) w) (hx : 0 ≤ x) (hz : x % y = z) : QR P n F o (.int .i64 z) w :=
  QR.nice h (by rw [IntWalk.rem_in x y hx, hz])
def aggT (P : Program) (t : TypeId) : Option Bool := (P.underlying t).map fun d => match d with | .struct _ | .array _ _ => true | _ => false
theorem isAgg_run {t : TypeId} {b : Bool} (h : aggT P t = some b) : (isAgg t).run P w = .ok b w := by
  unfold aggT at h
  obtain ⟨d, hd, hb⟩ := Option.map_eq_some_iff.1 h
  unfold isAgg
  simp only [Sem.run_bind, run_underlying hd, Result.andThen_ok]
  cases d <;> simp_all
theorem QR.ld1 {o : Oper} {v : Value} {t : TypeId} {x : Operand} {p : Addr} (ho : o.op = .load t x) (hx : ev n F x = .pointer (some p)) (ha : aggT P t = some false) (hc : w.cell? p = some v) : QR P n F o v w := by
  unfold QR execOp
  rw [ho]
  simp [hx, Instr.loadAt, Instr.sureAddr, loadVar, isAgg_run ha, hc]
theorem Addr.add_off (b off j : Nat) : (⟨b, off, none⟩ : Addr).add j = ⟨b, off + j, none⟩ := by
  unfold Addr.add; split <;> simp_all
theorem QR.ldN {o : Oper} {t : TypeId} {x : Operand} {b off : Nat} (cs : List Value) (ho : o.op = .load t x) (hx : ev n F x = .pointer (some ⟨b, off, none⟩)) (ha : aggT P t = some true) (hs : (P.info? t).map (·.size) = some cs.length)
    (hc : ∀ j v, cs[j]? = some v → w.cell? ⟨b, off + j, none⟩ = some v) : QR P n F o (.agg cs.toArray) w := by
  unfold QR execOp
  rw [ho]
  obtain ⟨i, hi, hsz⟩ := Option.map_eq_some_iff.1 hs
  have hl := run_loadCells_list (P := P) (w := w) ⟨b, off, none⟩ cs (fun j v hj => by rw [Addr.add_off]; exact hc j v hj)
  simp [hx, Instr.loadAt, Instr.sureAddr, loadVar, isAgg_run ha, sizeOf, typeInfo, hi, hsz, hl]
theorem QR.ix {o : Oper} {t e : TypeId} {x ix : Operand} {b off len cap : Nat} {ik : IntKind} {i : Int} (off' sz : Nat) (ho : o.op = .indexAddr t x ix) (hx : ev n F x = .slice (some ⟨b, off, none⟩) len cap) (hi : ev n F ix = .int ik i)
    (ht : P.underlying t = some (.slice e)) (hs : (P.info? e).map (·.size) = some sz) (hb : 0 ≤ i ∧ i < len) (hz : off + i.toNat * sz = off') : QR P n F o (.pointer (some ⟨b, off', none⟩)) w := by
  unfold QR execOp
  rw [ho]
  obtain ⟨inf, hinf, hsz⟩ := Option.map_eq_some_iff.1 hs
  subst hz hsz
  simp [hx, hi, Instr.indexAt, asIntOf, run_underlying ht, hb, sizeOf, typeInfo, hinf, Addr.add_off]
theorem QR.ixA {o : Oper} {t e : TypeId} {x ix : Operand} {b off len : Nat} {ik : IntKind} {i : Int} (off' sz : Nat) (ho : o.op = .indexAddr t x ix) (hx : ev n F x = .pointer (some ⟨b, off, none⟩)) (hi : ev n F ix = .int ik i)
    (ht : P.underlying t = some (.array len e)) (hs : (P.info? e).map (·.size) = some sz) (hb : 0 ≤ i ∧ i < len) (hz : off + i.toNat * sz = off') : QR P n F o (.pointer (some ⟨b, off', none⟩)) w := by
  unfold QR execOp
  rw [ho]
  obtain ⟨inf, hinf, hsz⟩ := Option.map_eq_some_iff.1 hs
  subst hz hsz
  simp [hx, hi, Instr.indexAt, Instr.sureAddr, asIntOf, run_underlying ht, hb, sizeOf, typeInfo, hinf, Addr.add_off]
theorem QR.len {o : Oper} {t e : TypeId} {x : Operand} {a : Option Addr} {len cap : Nat} (ho : o.op = .call { callee := .builtin .len, args := #[x], argTypes := #[t] }) (hx : ev n F x = .slice a len cap) (ht : P.underlying t = some (.slice e)) : QR P n F o (.int .i64 len) w := by
  unfold QR execOp
  rw [ho]
  simp [resolve, invoke, builtin, Builtin.len_, hx, run_underlying ht, goInt]
theorem QR.fn {o : Oper} {fn : Fn} {l1 l2 : List Operand} (v1 v2 : List Value) (ho : o.op = .makeFunc fn l1.toArray l2.toArray) (h1 : l1.map (ev n F) = v1) (h2 : l2.map (ev n F) = v2) : QR P n F o (.func fn v1.toArray v2.toArray) w := by
  unfold QR execOp
  rw [ho]
  simp [Instr.makeFunc, ← h1, ← h2]
end
end K
end Go.Proofs.Ytnehocjmgnhhhaa
