import Derived.Test.YtnehocjmgnhhhaaDoorKs
import Derived.Test.YtnehocjmgnhhhaaDoorKh
import Derived.Lib.AppendStr
import Derived.Lib.UnsafeStr
import Derived.Lib.Builder
import Derived.Laws.Externs
/- A string put behind a row of bytes; the string of a row of bytes that is frozen by it. -/
namespace Go.Proofs.YtnehocjmgnhhhaaDoor
open Go.RowKit
set_option linter.unusedVariables false
namespace K
def cBy (x : UInt8) : List Value := [.int .u8 ((x.toNat : Nat) : Int)]
theorem strCells_sb (l : List UInt8) : Lib.strCells (sb l) = l.flatMap cBy := by
  unfold Lib.strCells
  rw [sb_toList]
  induction l with
  | nil => rfl
  | cons a t ih => rw [List.map_cons, ih]; rfl
theorem cBy_get (l : List UInt8) (j : Nat) : (l.flatMap cBy)[j]? = (l[j]?).map fun x => Value.int .u8 ((x.toNat : Nat) : Int) := by
  induction l generalizing j with
  | nil => rfl
  | cons a t ih =>
    cases j with
    | zero => rfl
    | succ j => rw [List.flatMap_cons]; show (t.flatMap cBy)[j]? = _; rw [ih]; rfl
section
variable {P : Program} {n : Nat} {F : Fr} {w0 w : World} {ls : List Cs} {K : Fr → World → Prop}
theorem run_app2S (base : Nat) (t u ty e : TypeId) (i : TypeInfo) (ht : P.underlying t = some (.slice e)) (hu : P.underlying u = some .string) (hi : P.info? e = some i) (hz : i.zero = some (.int .u8 0)) (hsize : i.size = 1) (hby : i.bytes = 1)
    (v : Value) (n : Nat) (xs : List Value) (hown : w.ownsRow base e 1 v n xs) (s : ByteArray) (h63 : n + s.size ≤ maxLen) (hbytes : n + s.size ≤ 140737488355328) (hbase : base ≤ w.heap.size) :
    ∃ v' w', (Builtin.append_ #[t, u] ty #[v, .string s]).run P w = .ok v' w' ∧ w'.ownsRow base e 1 v' (n + s.size) (xs ++ Lib.strCells s) ∧ w.grownBy w' v.ownBlock ∧
      (v' = .slice none 0 0 ↔ v = .slice none 0 0 ∧ s.size = 0) ∧ (∀ b, v'.ownBlock = some b → v.ownBlock = some b ∨ w.heap.size ≤ b) := by
  obtain ⟨v', w', hr, h2, h3, h4⟩ := Lib.run_append_own_string (P := P) w base t u ty e i ht hu hi hz hsize hby v n xs hown s h63 hbytes hbase
  refine ⟨v', w', hr, h2, h3, h4, ?_⟩
  intro b hb
  have hsmall : n + s.size ≤ 9223372036854775807 := by simp only [maxLen] at h63; omega
  have hxl : xs.length = n := by simpa using hown.1
  have fin : ∀ {x : Value} {y : World}, (Builtin.append_ #[t, u] ty #[v, .string s]).run P w = .ok x y → v' = x := fun h => by
    rw [hr] at h; injection h
  rcases hown.2 with ⟨rfl, rfl⟩ | ⟨g, cap, cur, rfl, hbg, hg, hnc, hcm, hcs, htake⟩
  · by_cases hm : s.size = 0
    · rw [h4.2 ⟨rfl, hm⟩] at hb; cases hb
    · have hr2 := run_append_nil_string (P := P) w t u ty e i (.int .u8 0) ht hu hi hz s (by omega) (by omega) (by rw [hby]; omega)
      rw [fin hr2] at hb
      simp [Value.ownBlock] at hb
      omega
  · by_cases hroom : n + s.size ≤ cap
    · have hcc : cur.size = cap := by simpa using hcs
      have hr2 := Lib.run_append_room_string (P := P) w t u ty e i ht hu hi hsize g n cap cur hg s hroom (by omega)
      rw [fin hr2] at hb
      exact .inl hb
    · have holds : ∀ j u, xs[j]? = some u → w.cell? ((⟨g, 0, none⟩ : Addr).add j) = some u := hown.cells (g := g) rfl
      have hr2 := Lib.run_append_grow_string (P := P) w t u ty e i (.int .u8 0) ht hu hi hz ⟨g, 0, none⟩ n cap xs (by rw [hsize]; simpa using hxl) holds s (by omega) (by omega) (by rw [hby]; exact growslice_fits (by omega) (by omega))
      rw [fin hr2] at hb
      simp [Value.ownBlock] at hb
      omega
/-- 'append(s, x...)', s a row of bytes of the call's own, x a string -/
theorem OW.gappS {o : Oper} {dd : Option Nat} {s x : Operand} {t u e : TypeId} {a : Option Addr} {m cap : Nat} {L M : List UInt8} {l : Cs} (i : Nat) (hS : Sat w0 ls w) (hown : OwnG l e 1 a m cap (L.flatMap cBy))
    (h : ∀ a' cap' w' l', OwnG l' e 1 a' (m + M.length) cap' ((L ++ M).flatMap cBy) → Sat w0 (setn ls i l') w' → K (updo F dd (.slice a' (m + M.length) cap')) w')
    (ht : P.underlying t = some (.slice e)) (hu : P.underlying u = some .string) (hinf : (P.info? e).map (fun i => (i.zero, i.size, i.bytes)) = some (some (.int .u8 0), 1, 1)) (hm : m + M.length ≤ 140737488355328)
    (hi : nth ls i = l := by rfl) (hd : o.dst = dd := by rfl) (ho : o.op = .call { callee := .builtin .append, args := #[s, x], argTypes := #[t, u] } := by rfl) (hs : ev n F s = .slice a m cap := by rfl) (hx : ev n F x = .string (sb M) := by rfl) : OW P n F o w K := fun hok Q => by
  subst hd
  obtain ⟨inf, hi0, hz0, hz1, hz2⟩ := info_parts hinf
  have hw := hS.ownr i hi hown
  obtain ⟨v', w', hr, h2, h3, h4, h5⟩ := run_app2S (P := P) (w := w) w0.heap.size t u o.type e inf ht hu hi0 hz0 hz1 hz2 (.slice a m cap) m (L.flatMap cBy) hw (sb M) (by rw [sb_size]; unfold maxLen; omega) (by rw [sb_size]; exact hm) hS.chg.size
  rw [sb_size] at h2 h4
  rw [strCells_sb, ← List.flatMap_append] at h2
  refine Lib.wp_append_run w s x t u ho _ _ (by rw [eval_fr]; exact hs) (by rw [eval_fr]; exact hx) _ _ hr ?_
  have hf : ∃ a' cap', v' = .slice a' (m + M.length) cap' := by
    rcases h2.2 with ⟨rfl, h⟩ | ⟨g, cap', cur, rfl, _⟩
    · exact ⟨none, 0, by rw [h]⟩
    · exact ⟨_, _, rfl⟩
  obtain ⟨a', cap', rfl⟩ := hf
  have hrr : ∀ j, Ow a' j → Ow a j ∨ w.heap.size ≤ j := by
    rintro j ⟨p, rfl, rfl⟩
    rcases h5 p.block rfl with h6 | h6
    · refine .inl ?_
      cases a with
      | none => simp [Value.ownBlock] at h6
      | some q => simp [Value.ownBlock] at h6; exact ⟨q, rfl, h6.symm⟩
    · exact .inr h6
  obtain ⟨l', q1, q2⟩ := hS.rput i hi hown (Chg.grown h3) h2 hrr
  exact ⟨_, put_fr n F o.dst _ hok, h a' cap' w' l' q1 q2⟩
/-- unsafe.SliceData of a row that has room; of none -/
theorem QR.usd {o : Oper} {x : Operand} {t : TypeId} {a : Addr} {m cap : Nat} (ho : o.op = .call { callee := .builtin .unsafeSliceData, args := #[x], argTypes := #[t] }) (hx : ev n F x = .slice (some a) m cap) (hc : cap ≠ 0) : QR P n F o (.pointer (some a)) w := by
  unfold QR execOp
  rw [ho]
  have := Lib.run_unsafeSliceData_row (P := P) (w := w) #[t] o.type a m cap hc
  simp [resolve, invoke, builtin, hx, this]
theorem QR.usdN {o : Oper} {x : Operand} {t : TypeId} {m cap : Nat} (ho : o.op = .call { callee := .builtin .unsafeSliceData, args := #[x], argTypes := #[t] }) (hx : ev n F x = .slice none m cap) : QR P n F o (.pointer none) w := by
  unfold QR execOp
  rw [ho]
  have := Lib.run_unsafeSliceData_nil (P := P) (w := w) #[t] o.type m cap
  simp [resolve, invoke, builtin, hx, this]
theorem QR.usN {o : Oper} {x y : Operand} {t u : TypeId} (ho : o.op = .call { callee := .builtin .unsafeString, args := #[x, y], argTypes := #[t, u] }) (hx : ev n F x = .pointer none) (hy : ev n F y = .int .i64 0) : QR P n F o (.string (sb [])) w := by
  unfold QR execOp
  rw [ho]
  have := Lib.run_unsafeString_none (P := P) w t u o.type none
  simp [resolve, invoke, builtin, hx, hy, this]
  rfl
theorem Chg.freeze (w : World) (g m : Nat) : Chg (fun k => k = g) w (w.freeze ⟨g, 0, none⟩ m) := by
  unfold World.freeze
  split
  · exact (Chg.refl w).mono fun _ _ h => h.elim
  · refine ⟨rfl, rfl, rfl, by simp, fun k hk hx => ?_⟩
    simp only [Array.getElem?_modify]
    rw [if_neg (fun e => hx e.symm)]
/-- unsafe.String of a row of the call's own: the row is given up -/
theorem OW.gfrz {o : Oper} {dd : Option Nat} {x y : Operand} {t u e : TypeId} {g m cap : Nat} {L : List UInt8} {l : Cs} (i : Nat) (hS : Sat w0 ls w) (hown : OwnG l e 1 (some ⟨g, 0, none⟩) m cap (L.flatMap cBy)) (hm : L.length = m) (h0 : L ≠ [])
    (h : ∀ w', Sat w0 (setn ls i []) w' → K (updo F dd (.string (sb L))) w') (hp : P.underlying t = some (.pointer e)) (hc : P.cellsOf e = 1)
    (hi : nth ls i = l := by rfl) (hd : o.dst = dd := by rfl) (ho : o.op = .call { callee := .builtin .unsafeString, args := #[x, y], argTypes := #[t, u] } := by rfl) (hx : ev n F x = .pointer (some ⟨g, 0, none⟩) := by rfl) (hy : ev n F y = .int .i64 m := by rfl) : OW P n F o w K := fun hok Q => by
  subst hd hm
  have hw := hS.ownr i hi hown
  have hle := hown.le
  obtain ⟨cap', cur, hg, hcs⟩ : ∃ cap' cur, w.heap[g]? = some (.cells cur e (0, 0)) ∧ cur.size = cap' ∧ L.length ≤ cap' ∧ True := by
    rcases hw.2 with ⟨h1, _⟩ | ⟨g', cap', cur, h1, _, h2, h3, _, h4, _⟩
    · simp at h1
    · simp only [Value.slice.injEq, Option.some.injEq, Addr.mk.injEq, and_true, true_and] at h1
      obtain ⟨rfl, rfl⟩ := h1
      exact ⟨cap, cur, h2, by simpa using h4, h3, trivial⟩
  have hr := Lib.run_unsafeString_row (P := P) w t u o.type e hp hc g cur.size (by simp [World.shape?, hg]) L h0 (by rw [hcs.1]; exact hcs.2.1) (by have := hle.2; unfold maxLen at this; omega)
    (fun j z hj => by
      have hw' : w.ownsRow w0.heap.size e 1 (.slice (some ⟨g, 0, none⟩) L.length cap) L.length (L.flatMap cBy) := hw
      have := hw'.cells (g := g) rfl j (.int .u8 ((z.toNat : Nat) : Int)) (by rw [cBy_get, hj]; rfl)
      exact this)
  have hrun : (execOp (ev n F) o).run P w = .ok (.value (.string (sb L))) (w.freeze ⟨g, 0, none⟩ L.length) := by
    unfold execOp
    rw [ho]
    simp [resolve, invoke, builtin, hx, hy, hr]
    rfl
  unfold Oper.wp
  rw [eval_fr, hrun]
  refine ⟨_, put_fr n F o.dst _ hok, h _ (hS.put i [] (Chg.freeze w g L.length) ?_ List.nodup_nil (fun c hc => by cases hc))⟩
  rintro k rfl
  rw [hi]
  exact hown.ids_ow _ ⟨_, rfl, rfl⟩
theorem Blk.shape {b : Nat} {t : TypeId} {cs : List Value} (h : Blk w b t cs) : w.shape? b = some (t, cs.length) := by
  have h' : w.heap[b]? = some (.cells cs.toArray t (0, 0)) := h
  simp [World.shape?, h']
/-- an address as an address of anything, and back -/
theorem QR.cvU {o : Oper} {src dst t : TypeId} {x : Operand} {b : Nat} {cs : List Value} (ho : o.op = .convert src dst x) (hx : ev n F x = .pointer (some ⟨b, 0, none⟩)) (hs : P.underlying src = some (.pointer t)) (hd : P.underlying dst = some .unsafePointer)
    (ht : (P.info? t).map (fun i => Nat.beq i.size 0) = some false) (hb : Blk w b t cs) (hc : 0 < cs.length) : QR P n F o (.pointer (some ⟨b, 0, none⟩)) w := by
  obtain ⟨j, hj, hz⟩ := Option.map_eq_some_iff.1 ht
  have h := Lib.run_to_unsafe (P := P) w ⟨b, 0, none⟩ hs hd hj (fun e => by rw [e] at hz; cases hz) hb.shape hc
  unfold QR execOp
  rw [ho]
  simp only [hx, Sem.run_bind, h, Result.andThen_ok]
  rfl
theorem QR.cvF {o : Oper} {src dst t : TypeId} {x : Operand} {b : Nat} {cs : List Value} (ho : o.op = .convert src dst x) (hx : ev n F x = .pointer (some ⟨b, 0, none⟩)) (hs : P.underlying src = some .unsafePointer) (hd : P.underlying dst = some (.pointer t))
    (ht : (P.info? t).map (fun i => Nat.beq i.size 0) = some false) (hb : Blk w b t cs) (hl : liesAt P P.depth t (cs.length / P.cellsOf t) 0 t 1 = true) : QR P n F o (.pointer (some ⟨b, 0, none⟩)) w := by
  obtain ⟨j, hj, hz⟩ := Option.map_eq_some_iff.1 ht
  have h := Lib.run_from_unsafe (P := P) w ⟨b, 0, none⟩ hs hd hj hb.shape hl
  unfold QR execOp
  rw [ho]
  simp only [hx, Sem.run_bind, h, Result.andThen_ok]
  rfl
theorem QR.nesc {o : Oper} {f : FuncId} {l : List Operand} {ats : Array TypeId} {fn : Func} {v : Value} (ho : o.op = .call { callee := .value (.func f), args := l.toArray, argTypes := ats }) (hv : l.map (ev n F) = [v]) (hf : P.funcs[f]? = some fn) (h1 : (fn.name == "runtime.NumGoroutine") = false)
    (h2 : fn.body.isNone = true) (h3 : Extern.findNext fn = none) (h4 : Extern.find fn = some Extern.AbiNoEscape.same) : QR P n F o v w := by
  have h := run_callFunc_extern hf h1 h2 h3 h4 #[v] w
  rw [Lib.run_noEscape] at h
  unfold QR execOp
  rw [ho]
  simp [resolve, Deferred.ofValue, invoke, ev, hv, h]
/-- a pointer is one with itself -/
theorem QR.pneq {o : Oper} {t y2 : TypeId} {x y : Operand} {a : Addr} (ho : o.op = .binOp .neq t x y y2) (hx : ev n F x = .pointer (some a)) (hy : ev n F y = .pointer (some a)) {e : TypeId} {j : TypeInfo} (ht : P.underlying t = some (.pointer e)) (hj : P.info? e = some j) : QR P n F o (.bool false) w := by
  unfold QR execOp
  rw [ho]
  have h1 : (eqGuard .neq t x y (.pointer (some a)) (.pointer (some a))).run P w = .ok () w := rfl
  have h2 := Lib.run_neq_ptr_same (P := P) (w := w) a ht hj
  simp only [hx, hy, Sem.run_bind, h1, Result.andThen_ok, h2]
  rfl
/-- a contract on two groups that are held as one -/
theorem GC.join2 {f : FuncId} {args : Array Value} {A B : Cs} {R : Value → List Cs → Prop} (h : GC P w0 f args [A, B] R) (hn : ∀ v post, R v post → ∃ p q, post = [p, q]) : GC P w0 f args [A ++ B] (fun v post => ∃ p q, post = [p ++ q] ∧ R v [p, q]) := fun fr w hS =>
  KC.mono (h fr w (hS.of (by simp))) fun v w' ⟨post, h1, h2⟩ => by
    obtain ⟨p, q, rfl⟩ := hn v post h1
    exact ⟨[p ++ q], ⟨p, q, rfl, h1⟩, h2.of (by simp)⟩
/-- a contract on two groups that are held as one, and given up -/
theorem GC.join20 {f : FuncId} {args : Array Value} {A B : Cs} {R : Value → List Cs → Prop} (h : GC P w0 f args [A, B] R) : GC P w0 f args [A ++ B] R := fun fr w hS =>
  h fr w (hS.of (by simp))
end
end K
end Go.Proofs.YtnehocjmgnhhhaaDoor
