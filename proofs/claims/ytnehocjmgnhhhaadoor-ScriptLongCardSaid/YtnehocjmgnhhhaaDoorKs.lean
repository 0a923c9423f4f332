import Derived.Test.YtnehocjmgnhhhaaDoorKz
import Derived.Laws.BytesArg
/- Strings by the list of their bytes: put together, compared, their length, a byte, a part; of a row of bytes. -/
namespace Go.Proofs.YtnehocjmgnhhhaaDoor
open Go.RowKit
set_option linter.unusedVariables false
namespace K
def sb (l : List UInt8) : ByteArray := ⟨l.toArray⟩
def ofI (x : Int) : UInt8 := UInt8.ofNat x.toNat
def cStr (x : List UInt8) : List Value := [.string (sb x)]
theorem sb_size (l : List UInt8) : (sb l).size = l.length := by simp [sb, ByteArray.size]
theorem sb_app (l m : List UInt8) : sb l ++ sb m = sb (l ++ m) := by
  apply ByteArray.ext
  simp [sb]
theorem sb_inj {l m : List UInt8} (h : sb l = sb m) : l = m := by
  have := congrArg (fun b : ByteArray => b.data.toList) h
  simpa [sb] using this
theorem sb_data (b : ByteArray) : sb b.data.toList = b := by
  apply ByteArray.ext; simp [sb]
theorem sb_toList (l : List UInt8) : (sb l).data.toList = l := by simp [sb]
theorem nums_sb (xs : List Int) : strOfNums xs = sb (xs.map ofI) := by
  apply ByteArray.ext
  simp [sb, strOfNums, ofI]
theorem sb_listEq (l m : List UInt8) : ((sb l).toList == (sb m).toList) = decide (l = m) := by
  rw [Bool.eq_iff_iff]
  simp only [beq_iff_eq, decide_eq_true_eq]
  constructor
  · intro h
    have : sb l = sb m := by
      have h2 : ∀ b : ByteArray, b.toList = b.data.toList := fun b => by first | exact ByteArray.toList_eq b | simp [ByteArray.toList]
      rw [h2, h2] at h
      exact (sb_data (sb l)).symm.trans ((congrArg sb h).trans (sb_data (sb m)))
    exact sb_inj this
  · rintro rfl; rfl
section
variable {P : Program} {n : Nat} {F : Fr} {w : World}
theorem QR.sAdd {o : Oper} {t y2 : TypeId} {x y : Operand} {xs ys : List UInt8} (ho : o.op = .binOp .add t x y y2) (hx : ev n F x = .string (sb xs)) (hy : ev n F y = .string (sb ys)) (hl : xs.length + ys.length ≤ 9223372036854775807) : QR P n F o (.string (sb (xs ++ ys))) w := by
  have h0 : ¬ (((sb xs).size + (sb ys).size : Nat) : Int) > IntKind.i64.max := by
    rw [sb_size, sb_size, show IntKind.i64.max = 9223372036854775807 by decide]; omega
  have h2 : binOp .add t (.string (sb xs)) (.string (sb ys)) = pure (.string (sb (xs ++ ys))) := by
    rw [← sb_app]
    show Op.stringOp .add _ _ = _
    unfold Op.stringOp
    exact if_neg h0
  unfold QR execOp
  rw [ho]
  have h1 : (eqGuard .add t x y (.string (sb xs)) (.string (sb ys))).run P w = .ok () w := rfl
  simp only [hx, hy, Sem.run_bind, h1, Result.andThen_ok, h2]
  rfl
theorem QR.sLen {o : Oper} {t : TypeId} {x : Operand} {xs : List UInt8} (ho : o.op = .call { callee := .builtin .len, args := #[x], argTypes := #[t] }) (hx : ev n F x = .string (sb xs)) (ht : P.underlying t = some .string) : QR P n F o (.int .i64 xs.length) w := by
  unfold QR execOp
  rw [ho]
  simp [resolve, invoke, builtin, Builtin.len_, hx, run_underlying ht, goInt, sb_size]
theorem sb_get {xs : List UInt8} {i : Nat} (hi : i < xs.length) : (sb xs)[i]? = some (xs.getD i 0) := by
  have h : i < (sb xs).size := by rw [sb_size]; exact hi
  rw [getElem?_pos (sb xs) i h]
  congr 1
  show (sb xs).data[i] = _
  simp [sb, hi]
theorem QR.sIx {o : Oper} {t : TypeId} {x ix : Operand} {ik : IntKind} {i : Nat} {xs : List UInt8} (ho : o.op = .index t x ix) (hx : ev n F x = .string (sb xs)) (hi : ev n F ix = .int ik (i : Int)) (ht : P.underlying t = some .string) (hl : i < xs.length) :
    QR P n F o (.int .u8 (((xs.getD i 0).toNat : Nat) : Int)) w := by
  have hg := sb_get hl
  unfold QR execOp
  rw [ho]
  simp only [hx, hi]
  have hn : (0 : Int) ≤ (i : Int) := by omega
  simp only [Instr.index, asIntOf, Sem.run_bind, run_underlying ht, Sem.run_pure, Result.andThen_ok, Int.toNat_natCast, if_pos hn, hg]
theorem sb_ext (xs : List UInt8) (l h : Nat) : (sb xs).extract l h = sb ((xs.take h).drop l) := by
  apply ByteArray.ext
  simp [sb, ByteArray.data_extract, List.drop_take]
theorem bound_run {y i : Nat} {code : BoundsCode} {ik : IntKind} (h : i ≤ y) : (Instr.sliceBound (.int ik (i : Int)) y code).run P w = .ok i w := by
  have h0 : (0 : Int) ≤ (i : Int) ∧ (i : Int) ≤ (y : Int) := by omega
  simp [Instr.sliceBound, asIntOf, h0, h]
theorem QR.sSlLo {o : Oper} {t : TypeId} {x lo : Operand} {k1 : IntKind} {l : Nat} {xs : List UInt8} (ho : o.op = .slice t x (some lo) none none) (hx : ev n F x = .string (sb xs)) (h1 : ev n F lo = .int k1 (l : Int)) (ht : P.underlying t = some .string) (hb : l ≤ xs.length) :
    QR P n F o (.string (sb (xs.drop l))) w := by
  unfold QR execOp
  rw [ho]
  have e2 := bound_run (P := P) (w := w) (y := xs.length) (code := .sliceB) (ik := k1) hb
  simp [Instr.sliceAt, Instr.slice, Instr.sliceBounds, run_underlying ht, hx, h1, sb_size, e2, sb_ext]
theorem QR.sSlHi {o : Oper} {t : TypeId} {x hi : Operand} {k2 : IntKind} {h : Nat} {xs : List UInt8} (ho : o.op = .slice t x none (some hi) none) (hx : ev n F x = .string (sb xs)) (h2 : ev n F hi = .int k2 (h : Int)) (ht : P.underlying t = some .string) (hb : h ≤ xs.length) :
    QR P n F o (.string (sb (xs.take h))) w := by
  unfold QR execOp
  rw [ho]
  have e1 := bound_run (P := P) (w := w) (y := xs.length) (code := .sliceAlen) (ik := k2) hb
  simp [Instr.sliceAt, Instr.slice, Instr.sliceBounds, run_underlying ht, hx, h2, sb_size, e1, sb_ext]
theorem QR.sEq {o : Oper} {t y2 : TypeId} {x y : Operand} {xs ys : List UInt8} (b : Bool) (ho : o.op = .binOp .eql t x y y2) (hx : ev n F x = .string (sb xs)) (hy : ev n F y = .string (sb ys)) (hb : decide (xs = ys) = b) : QR P n F o (.bool b) w := by
  subst hb; rw [← sb_listEq]; exact QR.strEq ho hx hy
theorem QR.sNe {o : Oper} {t y2 : TypeId} {x y : Operand} {xs ys : List UInt8} (b : Bool) (ho : o.op = .binOp .neq t x y y2) (hx : ev n F x = .string (sb xs)) (hy : ev n F y = .string (sb ys)) (hb : (!decide (xs = ys)) = b) : QR P n F o (.bool b) w := by
  subst hb; rw [← sb_listEq]; exact QR.strNe ho hx hy
theorem QR.sOf {o : Oper} {src dst e : TypeId} {x : Operand} {a : Option Addr} {m cap : Nat} {xs : List Int} {ys : List UInt8} (ho : o.op = .convert src dst x) (hx : ev n F x = .slice a m cap) (hs : P.underlying src = some (.slice e)) (he : P.underlying e = some (.int .u8)) (hd : P.underlying dst = some .string)
    (hl : xs.length = m) (hr : RowE w a xs.length 1 (fun i => [.int .u8 (xs.getD i 0)])) (hy : xs.map ofI = ys) : QR P n F o (.string (sb ys)) w := by
  subst hy; rw [← nums_sb]; exact QR.b2s ho hx hs he hd hl hr
end
theorem all_snoc {p : Nat → Prop} {i : Nat} (h : ∀ j, j < i → p j) (hi : p i) : ∀ j, j < i + 1 → p j := fun j hj => by
  rcases Nat.lt_or_ge j i with h' | h'
  · exact h j h'
  · obtain rfl : j = i := by omega
    exact hi
theorem KC.of {P : Program} {f : FuncId} {args : Array Value} {w : World} {R : Value → World → Prop} (h : Calls P f args w fun e w' => ∃ v, e = .returned v ∧ R v w') : KC P f args w R := h
theorem deq_t {α : Type} [DecidableEq α] {x y : α} (h : x = y) : decide (x = y) = true := decide_eq_true h
theorem deq_f {α : Type} [DecidableEq α] {x y : α} (h : ¬ x = y) : decide (x = y) = false := decide_eq_false h
theorem ndeq_t {α : Type} [DecidableEq α] {x y : α} (h : x = y) : (!decide (x = y)) = false := by rw [decide_eq_true h]; rfl
theorem ndeq_f {α : Type} [DecidableEq α] {x y : α} (h : ¬ x = y) : (!decide (x = y)) = true := by rw [decide_eq_false h]; rfl
end K
end Go.Proofs.YtnehocjmgnhhhaaDoor
