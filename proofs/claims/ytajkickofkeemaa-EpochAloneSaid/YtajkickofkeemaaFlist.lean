/- Lists of plain values as cells; Same tells whether two lists of words are one. -/
import Derived.Test.YtajkickofkeemaaKz
namespace Go.Proofs.Ytajkickofkeemaa
open Go.RowKit
set_option linter.unusedVariables false
attribute [local irreducible] K.KW K.RW K.DW K.OW K.QR K.KC

def cU64 (x : Int) : List Value := [.int .u64 x]
def cI64 (x : Int) : List Value := [.int .i64 x]
def cU8 (x : Int) : List Value := [.int .u8 x]
def cU32 (x : Int) : List Value := [.int .u32 x]
def cBool (x : Bool) : List Value := [.bool x]
abbrev RU64 (w : World) (a : Option Addr) (xs : List Int) : Prop := K.RowE w a xs.length 1 (fun i => cU64 (xs.getD i 0))
abbrev RI64 (w : World) (a : Option Addr) (xs : List Int) : Prop := K.RowE w a xs.length 1 (fun i => cI64 (xs.getD i 0))
abbrev RU8 (w : World) (a : Option Addr) (xs : List Int) : Prop := K.RowE w a xs.length 1 (fun i => cU8 (xs.getD i 0))

def eqUpTo (xs ys : List Int) (k : Nat) : Prop := ∀ j, j < k → xs.getD j 0 = ys.getD j 0
theorem eqUpTo_zero (xs ys : List Int) : eqUpTo xs ys 0 := fun _ h => by omega
theorem eqUpTo_succ {xs ys : List Int} {k : Nat} (h : eqUpTo xs ys k) (he : xs.getD k 0 = ys.getD k 0) : eqUpTo xs ys (k + 1) := fun j hj => by
 rcases Nat.lt_or_ge j k with h' | h'
 ·exact h j h'
 ·rw [show j = k by omega]; exact he
theorem eq_of_upTo {xs ys : List Int} (hl : xs.length = ys.length) {k : Nat} (hk : k = xs.length) (h : eqUpTo xs ys k) : xs = ys := by
 subst hk
 apply List.ext_getElem hl
 intro j h1 h2
 have := h j h1
 simpa [h1, h2] using this
/-- are two lists of words one? -/
def sameB (xs ys : List Int) : Bool := decide (xs = ys)
theorem sameB_t {xs ys : List Int} {k : Nat} (h : xs.length = ys.length) (he : eqUpTo xs ys k) (hk : k = xs.length) : Value.bool true = .bool (sameB xs ys) :=
 congrArg Value.bool (decide_eq_true (eq_of_upTo h hk he)).symm
theorem sameB_len {xs ys : List Int} (h : ¬ (xs.length : Int) = ys.length) : Value.bool false = .bool (sameB xs ys) :=
 congrArg Value.bool (decide_eq_false (fun e => h (by rw [e]))).symm
theorem sameB_ne {xs ys : List Int} {k : Nat} (h : ¬ xs.getD k 0 = ys.getD k 0) : Value.bool false = .bool (sameB xs ys) :=
 congrArg Value.bool (decide_eq_false (fun e => h (by rw [e]))).symm

/-- A slice of integers that came in, as a row. -/
theorem row_of_arg {k : IntKind} {w : World} {a : Option Addr} {len cap : Nat} {zs : List Int} (c : Int → List Value) (hck : ∀ x, c x = [.int k x])
  (h : (a = none ∧ len = 0 ∧ cap = 0 ∧ zs = []) ∨ ∃ x, a = some x ∧ len ≤ cap ∧ cap ≤ maxLen ∧ zs.length = cap ∧ (∀ i, i < zs.length → w.cell? (x.add i) = some (.int k (zs.getD i 0))) ∧ ∀ n ∈ zs, (Lit.int k n).wf = true) :
  (zs.take len).length = len ∧ K.RowE w a (zs.take len).length 1 (fun i => c ((zs.take len).getD i 0)) ∧ len ≤ 9223372036854775807 := by
 rcases h with ⟨rfl, rfl, rfl, rfl⟩ | ⟨x, rfl, h1, h2, h3, h4, _⟩
 ·exact ⟨rfl, .inl rfl, by omega⟩
 ·have hl : (zs.take len).length = len := by rw [List.length_take]; omega
  refine ⟨hl, ?_, by unfold maxLen at h2; omega⟩
  by_cases h0 : len = 0
  ·exact .inl (by rw [hl]; exact h0)
  ·have hs : x.spot = none := by
    have h5 := h4 0 (by omega)
    unfold Addr.add at h5
    rw [if_pos rfl] at h5
    unfold World.cell? at h5
    split at h5
    ·cases hx : x.spot with
     | none => rfl
     | some _ => simp [hx] at h5
    ·cases h5
   obtain ⟨b, off, sp⟩ := x
   simp only at hs
   subst hs
   refine .inr ⟨b, off, rfl, fun i hi j v hv => ?_⟩
   rw [hl] at hi
   simp only [hck] at hv
   match j, hv with
   | 0, hv =>
    simp only [List.getElem?_cons_zero, Option.some.injEq] at hv
    have h5 := h4 i (by omega)
    rw [K.Addr.add_off] at h5
    rw [Nat.mul_one, Nat.add_zero, h5, ← hv]
    have e : (zs.take len).getD i 0 = zs.getD i 0 := by
     rw [List.getD_eq_getElem?_getD, List.getD_eq_getElem?_getD, List.getElem?_take, if_pos hi]
    rw [e]
theorem calls_of_kc {P : Program} {f : FuncId} {args : Array Value} {w : World} (h : K.KC P f args w (fun v w' => v = .bool true ∧ K.Chg K.No w w')) :
  Calls P f args w fun e w' => e = .returned (.bool true) ∧ Below w.heap.size w w' := by
 unfold K.KC at h
 exact Calls.mono h fun e w' ⟨v, he, hv, hc⟩ => ⟨by rw [he, hv], hc.below_no⟩

end Go.Proofs.Ytajkickofkeemaa
