import Derived.Test.YtnehocjmgnhhhaaKy
import Derived.Laws.BytesArg
import Derived.Laws.OwnMore
/- More operations that only look: strings, shifts and bits, arrays by value. -/
namespace Go.Proofs.Ytnehocjmgnhhhaa
open Go.RowKit
set_option linter.unusedVariables false
namespace K
section
variable {P : Program} {n : Nat} {Q : Exit → Fr → World → Prop} {F : Fr} {w : World}
/-! ### Shifts, and bits put together -/
def andK (k : IntKind) (x y : Int) : Int := k.wrap ((BitVec.ofInt k.bits x &&& BitVec.ofInt k.bits y).toNat : Int)
theorem QR.shr {o : Oper} {t y2 : TypeId} {x y : Operand} {k yk : IntKind} {a : Int} {m : Nat} (ho : o.op = .binOp .shr t x y y2) (hx : ev n F x = .int k a) (hy : ev n F y = .int yk m) (hm : m ≤ k.bits) (h0 : 0 ≤ a) : QR P n F o (.int k (a / 2 ^ m)) w := by
  unfold QR execOp
  rw [ho]
  have h1 : (eqGuard .shr t x y (.int k a) (.int yk m)).run P w = .ok () w := rfl
  have h2 : ¬ ((m : Int) < 0) := by omega
  have h3 : min m k.bits = m := by omega
  have h4 : a.fdiv (2 ^ m) = a / 2 ^ m := Int.fdiv_eq_ediv_of_nonneg a (Int.le_of_lt (Int.pow_pos (by decide)))
  simp [hx, hy, h1, binOp, Op.shift, h2, h3, h4]
theorem QR.and {o : Oper} {t y2 : TypeId} {x y : Operand} {k : IntKind} {a b : Int} (ho : o.op = .binOp .and t x y y2) (hx : ev n F x = .int k a) (hy : ev n F y = .int k b) : QR P n F o (.int k (andK k a b)) w := by
  unfold QR execOp
  rw [ho]
  have h1 : (eqGuard .and t x y (.int k a) (.int k b)).run P w = .ok () w := rfl
  simp [hx, hy, h1, binOp, Op.intBits, andK]
/-- a new slice of noughts -/
theorem OW.mk {o : Oper} {dd : Option Nat} {t e : TypeId} {l c : Operand} {k1 k2 : IntKind} {m : Nat} {base : Nat} {z : Value} {size bytes : Nat} {α : Type} {cc : α → List Value} (zz : α) {K : Fr → World → Prop} (hd : o.dst = dd)
    (ho : o.op = .makeSlice t l c) (hl : ev n F l = .int k1 m) (hc : ev n F c = .int k2 m) (ht : P.underlying t = some (.slice e)) (hi : (P.info? e).map (fun i => (i.zero, i.size, i.bytes)) = some (some z, size, bytes)) (hz : z.cells.toList = cc zz) (hs : (cc zz).length = size)
    (hm : m ≤ maxLen) (hb : bytes * m ≤ 281474976710656) (hbase : base ≤ w.heap.size)
    (h : ∀ w' r, r = w.heap.size → Chg No w w' → w'.heap.size = r + 1 → Own w' base e size (some ⟨r, 0, none⟩) m m ((List.replicate m zz).flatMap cc) → K (updo F dd (.slice (some ⟨r, 0, none⟩) m m)) w') : OW P n F o w K := fun hok Q => by
  subst hd
  obtain ⟨i, hi0, hz0, hz1, hz2⟩ := info_parts hi
  have h63 : (m : Int) ≤ 9223372036854775807 := by unfold maxLen at hm; omega
  have hb' : (i.bytes : Int) * (m : Int) ≤ 281474976710656 := by
    rw [hz2]
    have : ((bytes * m : Nat) : Int) ≤ 281474976710656 := by omega
    rwa [Int.natCast_mul] at this
  have hr := run_make (P := P) w t e i z ht hi0 hz0 k1 k2 m m (by omega) (Int.le_refl _) hb' h63
  simp only [Int.toNat_natCast] at hr
  have hzs : z.cells.size = size := by rw [← hs, ← hz]; simp
  have hcells : (madeCells z.cells (m * i.size)).toList = (List.replicate m zz).flatMap cc := by
    unfold madeCells
    rw [hz1, ← hzs]
    exact zero_flat cc zz z.cells hz m
  unfold Oper.wp
  rw [eval_fr]
  have hrun : (execOp (ev n F) o).run P w = .ok (.value (.slice (some ⟨w.heap.size, 0, none⟩) m m)) (w.alloc (.cells (madeCells z.cells (m * i.size)) e)) := by
    unfold execOp
    rw [ho]
    simp [hl, hc, hr]
  rw [hrun]
  refine ⟨_, put_fr n F o.dst _ hok, h _ _ rfl (Chg.alloc w _) (by simp) ⟨by simp [List.length_flatMap, hs], .inr ⟨w.heap.size, m, _, rfl, hbase, heap_alloc_new w _, Nat.le_refl _, hm, by rw [size_madeCells, hz1], ?_⟩⟩⟩
  rw [hcells, List.take_of_length_le (by simp [List.length_flatMap, hs])]
/-- all of a row of the call's own, as a block -/
theorem Own.blk {base : Nat} {e : TypeId} {size m : Nat} {b : Nat} {xs : List Value} (h : Own w base e size (some ⟨b, 0, none⟩) m m xs) : Blk w b e xs := by
  rcases h.2 with ⟨h1, _⟩ | ⟨g, cap, cur, h1, _, hg, hn, hm, hs, ht⟩
  · simp at h1
  · simp only [Value.slice.injEq, Option.some.injEq, Addr.mk.injEq, and_true, true_and] at h1
    obtain ⟨rfl, rfl⟩ := h1
    unfold Blk
    rw [hg, ← ht, List.take_of_length_le (by simp [hs])]
theorem RowE.len {w : World} {a : Option Addr} {m sz q : Nat} {g : Nat → List Value} (h : RowE w a m sz g) (e : q = m) : RowE w a q sz g := e ▸ h
theorem QR.turn {o : Oper} {v v' : Value} (h : QR P n F o v w) (e : v = v') : QR P n F o v' w := e ▸ h
end
end K
end Go.Proofs.Ytnehocjmgnhhhaa

/- Lists of plain values as cells; Same tells whether two lists of words are one. -/
namespace Go.Proofs.Ytnehocjmgnhhhaa
open Go.RowKit
set_option linter.unusedVariables false
attribute [local irreducible] K.KW K.RW K.DW K.OW K.QR K.KC
def cI64 (x : Int) : List Value := [.int .i64 x]
def cU32 (x : Int) : List Value := [.int .u32 x]
def cBool (x : Bool) : List Value := [.bool x]
theorem calls_of_kc {P : Program} {f : FuncId} {args : Array Value} {w : World} (h : K.KC P f args w (fun v w' => v = .bool true ∧ K.Chg K.No w w')) :
  Calls P f args w fun e w' => e = .returned (.bool true) ∧ Below w.heap.size w w' := by
 unfold K.KC at h
 exact Calls.mono h fun e w' ⟨v, he, hv, hc⟩ => ⟨by rw [he, hv], hc.below_no⟩
end Go.Proofs.Ytnehocjmgnhhhaa
