import Derived.Test.YtnehocjmgnhhhaaDoorKy
import Derived.Laws.BytesArg
import Derived.Laws.OwnMore
/- More operations that only look: strings, shifts and bits, arrays by value. -/
namespace Go.Proofs.YtnehocjmgnhhhaaDoor
open Go.RowKit
set_option linter.unusedVariables false
namespace K
section
variable {P : Program} {n : Nat} {Q : Exit → Fr → World → Prop} {F : Fr} {w : World}
/-- a string of a row of bytes -/
theorem QR.b2s {o : Oper} {src dst e : TypeId} {x : Operand} {a : Option Addr} {m cap : Nat} {xs : List Int} (ho : o.op = .convert src dst x) (hx : ev n F x = .slice a m cap) (hs : P.underlying src = some (.slice e)) (he : P.underlying e = some (.int .u8)) (hd : P.underlying dst = some .string)
    (hl : xs.length = m) (hr : RowE w a xs.length 1 (fun i => [.int .u8 (xs.getD i 0)])) : QR P n F o (.string (strOfNums xs)) w := by
  unfold QR execOp
  rw [ho]
  simp only [hx]
  have key : (convert src dst (.slice a m cap)).run P w = .ok (.string (strOfNums xs)) w := by
    subst hl
    cases a with
    | none =>
      have h0 : xs = [] := by
        rcases hr with h | ⟨_, _, h, _⟩
        · exact List.eq_nil_of_length_eq_zero h
        · cases h
      subst h0
      exact run_convert_bytes_nil w src e hs he _ _ dst hd
    | some p =>
      by_cases h0 : xs.length = 0
      · have h1 := List.eq_nil_of_length_eq_zero h0
        subst h1
        rw [run_convert_bytes_string w src dst e _ _ _ hs he hd, run_bytesToString w _ _ _ [] (by simpa using run_loadCells_list (P := P) w p [] (by simp))]
        rfl
      · obtain ⟨b, off, hp, hc⟩ := hr.at_ (by omega)
        cases hp
        exact run_convert_bytes_arg w src e hs he b off _ cap xs rfl (fun i hi => by have := hc i hi 0 _ rfl; simpa using this) dst hd
  simp [key]
theorem QR.strEq {o : Oper} {t y2 : TypeId} {x y : Operand} {s u : ByteArray} (ho : o.op = .binOp .eql t x y y2) (hx : ev n F x = .string s) (hy : ev n F y = .string u) : QR P n F o (.bool (s.toList == u.toList)) w := by
  unfold QR execOp
  rw [ho]
  have h1 : (eqGuard .eql t x y (.string s) (.string u)).run P w = .ok () w := rfl
  simp only [hx, hy, Sem.run_bind, h1, Result.andThen_ok, binOp_string_eql]
  rfl
theorem QR.strNe {o : Oper} {t y2 : TypeId} {x y : Operand} {s u : ByteArray} (ho : o.op = .binOp .neq t x y y2) (hx : ev n F x = .string s) (hy : ev n F y = .string u) : QR P n F o (.bool (!(s.toList == u.toList))) w := by
  unfold QR execOp
  rw [ho]
  have h1 : (eqGuard .neq t x y (.string s) (.string u)).run P w = .ok () w := rfl
  have h2 : binOp .neq t (.string s) (.string u) = pure (.bool (!(s.toList == u.toList))) := by simp [binOp, Op.stringOp, bne]
  simp only [hx, hy, Sem.run_bind, h1, Result.andThen_ok, h2]
  rfl
/-! ### Shifts, and bits put together -/
theorem QR.min2 {o : Oper} {t1 t2 : TypeId} {x y : Operand} {a b : Int} (z : Int) (ho : o.op = .call { callee := .builtin .min, args := #[x, y], argTypes := #[t1, t2] }) (hx : ev n F x = .int .i64 a) (hy : ev n F y = .int .i64 b) (hz : (b < a ∧ z = b) ∨ (a ≤ b ∧ z = a)) : QR P n F o (.int .i64 z) w := by
  unfold QR execOp
  rw [ho]
  rcases hz with ⟨h, rfl⟩ | ⟨h, rfl⟩
  · simp [resolve, invoke, builtin, Builtin.min_, Builtin.min2, hx, hy, h]
  · have : ¬ b < z := by omega
    simp [resolve, invoke, builtin, Builtin.min_, Builtin.min2, hx, hy, this]
/-- a new slice of noughts -/
theorem OW.mk {o : Oper} {dd : Option Nat} {t e : TypeId} {l c : Operand} {k1 k2 : IntKind} {m : Nat} {base : Nat} {z : Value} {size bytes : Nat} {α : Type} {cc : α → List Value} (zz : α) {K : Fr → World → Prop} (hd : o.dst = dd)
    (ho : o.op = .makeSlice t l c) (hl : ev n F l = .int k1 m) (hc : ev n F c = .int k2 m) (ht : P.underlying t = some (.slice e)) (hi : (P.info? e).map (fun i => (i.zero, i.size, i.bytes)) = some (some z, size, bytes)) (hz : z.cells.toList = cc zz) (hs : (cc zz).length = size)
    (hm : m ≤ maxLen) (hb : bytes * m ≤ 281474976710656) (hbase : base ≤ w.heap.size)
    (h : ∀ w' r, r = w.heap.size → Chg No w w' → w'.heap.size = r + 1 → Own w' base e size (some ⟨r, 0, none⟩) m m ((List.replicate m zz).flatMap cc) → K (updo F dd (.slice (some ⟨r, 0, none⟩) m m)) w') : OW P n F o w K := fun hok Q => by
  subst hd
  obtain ⟨i, hi0, hz0, hz1, hz2⟩ := info_parts hi
  have h63 : (m : Int) ≤ 9223372036854775807 := by unfold maxLen at hm; omega
  have hb' : (i.bytes : Int) * (m : Int) ≤ 281474976710656 := by
    rw [hz2]
    have : ((bytes * m : Nat) : Int) ≤ 281474976710656 := by omega
    rwa [Int.natCast_mul] at this
  have hr := run_make (P := P) w t e i z ht hi0 hz0 k1 k2 m m (by omega) (Int.le_refl _) hb' h63
  simp only [Int.toNat_natCast] at hr
  have hzs : z.cells.size = size := by rw [← hs, ← hz]; simp
  have hcells : (madeCells z.cells (m * i.size)).toList = (List.replicate m zz).flatMap cc := by
    unfold madeCells
    rw [hz1, ← hzs]
    exact zero_flat cc zz z.cells hz m
  unfold Oper.wp
  rw [eval_fr]
  have hrun : (execOp (ev n F) o).run P w = .ok (.value (.slice (some ⟨w.heap.size, 0, none⟩) m m)) (w.alloc (.cells (madeCells z.cells (m * i.size)) e)) := by
    unfold execOp
    rw [ho]
    simp [hl, hc, hr]
  rw [hrun]
  refine ⟨_, put_fr n F o.dst _ hok, h _ _ rfl (Chg.alloc w _) (by simp) ⟨by simp [List.length_flatMap, hs], .inr ⟨w.heap.size, m, _, rfl, hbase, heap_alloc_new w _, Nat.le_refl _, hm, by rw [size_madeCells, hz1], ?_⟩⟩⟩
  rw [hcells, List.take_of_length_le (by simp [List.length_flatMap, hs])]
/-- all of a row of the call's own, as a block -/
theorem Own.blk {base : Nat} {e : TypeId} {size m : Nat} {b : Nat} {xs : List Value} (h : Own w base e size (some ⟨b, 0, none⟩) m m xs) : Blk w b e xs := by
  rcases h.2 with ⟨h1, _⟩ | ⟨g, cap, cur, h1, _, hg, hn, hm, hs, ht⟩
  · simp at h1
  · simp only [Value.slice.injEq, Option.some.injEq, Addr.mk.injEq, and_true, true_and] at h1
    obtain ⟨rfl, rfl⟩ := h1
    unfold Blk
    rw [hg, ← ht, List.take_of_length_le (by simp [hs])]
theorem RowE.len {w : World} {a : Option Addr} {m sz q : Nat} {g : Nat → List Value} (h : RowE w a m sz g) (e : q = m) : RowE w a q sz g := e ▸ h
theorem Blk.same {w w' : World} {b : Nat} {t : TypeId} {cs : List Value} (h : Blk w b t cs) (h' : Blk w' b t cs) : w'.heap[b]? = w.heap[b]? := h'.trans h.symm
theorem QR.turn {o : Oper} {v v' : Value} (h : QR P n F o v w) (e : v = v') : QR P n F o v' w := e ▸ h
end
end K
end Go.Proofs.YtnehocjmgnhhhaaDoor
