/- Lines of noughts: slices.Repeat. -/
import Derived.Laws.CopyRow
import Derived.Test.YtgeihjiichdpbaaFlin3
namespace Go.Proofs.Ytgeihjiichdpbaa
open Go.RowKit
set_option linter.unusedVariables false
attribute [local irreducible] K.KW K.RW K.DW K.OW K.QR K.KC

theorem andK_low {n : Nat} (h : n < 4294967296) : K.andK .u64 (n : Int) 4294967295 = n := by
  unfold K.andK
  have h1 : (BitVec.ofInt IntKind.u64.bits (n : Int) &&& BitVec.ofInt IntKind.u64.bits 4294967295).toNat = n := by
    show (BitVec.ofInt 64 (n : Int) &&& BitVec.ofInt 64 4294967295).toNat = n
    rw [BitVec.toNat_and, BitVec.ofInt_natCast, BitVec.toNat_ofNat, Nat.mod_eq_of_lt (by omega), show (BitVec.ofInt 64 4294967295).toNat = 2 ^ 32 - 1 by decide, Nat.and_two_pow_sub_one_eq_mod, Nat.mod_eq_of_lt (by omega)]
  rw [h1]
  exact wrap64_of (by omega)
theorem shr32_0 {n : Nat} (h : n < 4294967296) : (n : Int) / 2 ^ 32 = 0 := by
  have : (2 : Int) ^ 32 = 4294967296 := by decide
  rw [this]; omega
/-- so many lines of noughts -/
abbrev zeroL (n : Nat) : List (List Int) := List.replicate n ([0, 0, 0, 0, 0, 0, 0, 0] : List Int)
theorem zeroL_len (n : Nat) : (zeroL n).length = n := List.length_replicate
theorem zeroL_get (n i : Nat) : cLine ((zeroL n).getD i []) = List.replicate 8 (.int .u64 0) := by unfold zeroL; rw [List.getD_eq_getElem?_getD, List.getElem?_replicate]; split <;> rfl
theorem zero_line (n i j : Nat) : ((zeroL n).getD i []).getD j 0 = 0 := by
  unfold zeroL; rw [List.getD_eq_getElem?_getD (l := List.replicate _ _), List.getElem?_replicate]
  split
  · show ([0, 0, 0, 0, 0, 0, 0, 0] : List Int).getD j 0 = 0
    match j with
    | 0 | 1 | 2 | 3 | 4 | 5 | 6 | 7 => rfl
    | j + 8 => rfl
  · simp
theorem cLine_nil : cLine ([0, 0, 0, 0, 0, 0, 0, 0] : List Int) = List.replicate 8 (.int .u64 0) := rfl
theorem zeroL_flat : ∀ n : Nat, (zeroL n).flatMap cLine = List.replicate (n * 8) (Value.int .u64 0)
  | 0 => rfl
  | n + 1 => by
    have ih := zeroL_flat n
    unfold zeroL at ih ⊢
    rw [List.replicate_succ, List.flatMap_cons, ih, cLine_nil, List.replicate_append_replicate, show 8 + n * 8 = (n + 1) * 8 by omega]
/-- a row of lines of noughts, from any place on -/
theorem zeroRow {w : World} {base g N cap : Nat} (h : K.Own w base 148 8 (some ⟨g, 0, none⟩) N cap ((zeroL N).flatMap cLine)) {q : Nat} (hq : q < N * 8) : w.cell? ⟨g, q, none⟩ = some (.int .u64 0) := by
  have h2 := (K.Own.rowE ([] : List Int) h (zeroL_len N) (fun _ => rfl)).ld (q / 8) (by omega) (q % 8) (.int .u64 0) (by rw [zeroL_get, List.getElem?_replicate, if_pos (by omega)])
  rw [show 0 + q / 8 * 8 + q % 8 = q by omega] at h2
  exact h2
/-- copying noughts over noughts: nothing turns -/
theorem QR.copyZ {n : Nat} {F : K.Fr} {w : World} {o : Oper} {dT sT : TypeId} {d s : Operand} {g off g2 o2 dl dc sl sc base N : Nat} {dp : Option Addr} (m : Nat) (ho : o.op = .call { callee := .builtin .copy, args := #[d, s], argTypes := #[dT, sT] })
    (hx : K.ev n F d = .slice dp dl dc) (hy : K.ev n F s = .slice (some ⟨g2, o2, none⟩) sl sc) (hdp : 0 < m → dp = some ⟨g, off, none⟩) (ht : Try.prog.underlying dT = some (.slice 148)) (hm : m = Nat.min sl dl)
    (how : K.Own w base 148 8 (some ⟨g, 0, none⟩) N N ((zeroL N).flatMap cLine)) (hfit : 0 < m → off + m * 8 ≤ N * 8) (hsrc : ∀ q, q < m * 8 → w.cell? ⟨g2, o2 + q, none⟩ = some (.int .u64 0)) : K.QR Try.prog n F o (.int .i64 m) w := by
  have hs : (Try.prog.info? 148).map (·.size) = some 8 := by kernel_rfl
  obtain ⟨i, hq, hi⟩ := Option.map_eq_some_iff.1 hs
  have hload := run_loadCells_list (P := Try.prog) w ⟨g2, o2, none⟩ (List.replicate (m * 8) (.int .u64 0)) (by
    intro j v hj
    rw [List.getElem?_replicate] at hj
    by_cases h : j < m * 8
    · rw [if_pos h] at hj
      have hadd : (⟨g2, o2, none⟩ : Addr).add j = ⟨g2, o2 + j, none⟩ := by unfold Addr.add; split <;> simp_all
      rw [hadd, hsrc j h]; exact hj
    · rw [if_neg h] at hj; cases hj)
  rw [List.length_replicate] at hload
  have hst : ∀ a, dp = some a → (storeCells a (List.replicate (m * 8) (.int .u64 0)) 0).run Try.prog w = .ok () w := by
    intro a ha
    by_cases h0 : m = 0
    · subst h0; rfl
    · obtain rfl : a = ⟨g, off, none⟩ := by have := hdp (by omega); rw [ha] at this; exact Option.some.inj this
      have hf := hfit (by omega)
      rcases how.2 with ⟨h1, _⟩ | ⟨g', cap', cur, h1, h2, h3, h4, h5, h6, h7⟩
      · cases h1
      · simp only [Value.slice.injEq, Option.some.injEq, Addr.mk.injEq, and_true] at h1
        obtain ⟨rfl, -, rfl⟩ := h1
        have hcur : cur.toList = List.replicate (N * 8) (Value.int .u64 0) := by rw [← zeroL_flat, ← h7, List.take_of_length_le (by simp; omega)]
        have h8 := run_storeCells_at Try.prog g off _ (List.replicate (m * 8) (Value.int .u64 0)) 0 cur w h3 (by simp; omega) (by intro v hv; rw [List.eq_of_mem_replicate hv]; rfl)
        rw [h8]
        have h9 : (cur.toList.take (off + 0) ++ List.replicate (m * 8) (Value.int .u64 0) ++ cur.toList.drop (off + 0 + (List.replicate (m * 8) (Value.int .u64 0)).length)).toArray = cur := by
          refine Array.toList_inj.1 ?_
          rw [hcur]
          simp only [List.length_replicate, Nat.add_zero, List.take_replicate, List.drop_replicate, List.replicate_append_replicate]
          exact congrArg (fun k => List.replicate k (Value.int .u64 0)) (by omega)
        rw [h9, setRow_self w g cur _ (0, 0) h3]
  have hrun : (Builtin.copy_ #[dT, sT] o.type #[.slice dp dl dc, .slice (some ⟨g2, o2, none⟩) sl sc]).run Try.prog w = .ok (goInt m) w := by
    cases dp with
    | none => simp [Builtin.copy_, run_underlying ht, Builtin.lenOf, Builtin.firstCells, sizeOf, typeInfo, hq, hi, ← hm, hload]
    | some a => simp [Builtin.copy_, run_underlying ht, Builtin.lenOf, Builtin.firstCells, sizeOf, typeInfo, hq, hi, ← hm, hload, hst a rfl]
  unfold K.QR execOp
  rw [ho]
  simp [resolve, invoke, builtin, hx, hy, hrun]
  rfl

theorem zeroRowE {w : World} {g o m : Nat} (h : K.RowE w (some ⟨g, o, none⟩) m 8 (fun i => cLine ((zeroL m).getD i []))) {q : Nat} (hq : q < m * 8) : w.cell? ⟨g, o + q, none⟩ = some (.int .u64 0) := by
  have h2 := h.ld (q / 8) (by omega) (q % 8) (.int .u64 0) (by rw [zeroL_get, List.getElem?_replicate, if_pos (by omega)])
  rw [show o + q / 8 * 8 + q % 8 = o + q by omega] at h2
  exact h2
theorem shift_lt {g n k : Nat} (h : k < n) : K.shift (some ⟨g, 0, none⟩) n k 8 = some ⟨g, 0 + k * 8, none⟩ := by
  unfold K.shift
  rw [if_neg (by omega)]
  simp only [Option.map_some, Addr.add]
  split <;> simp_all
def zc (n : Int) : Nat := (min (max n 0) 262144).toNat
theorem zc_le (n : Int) : zc n ≤ 262144 := by unfold zc; omega

set_option maxHeartbeats 1000000 in
set_option maxRecDepth 100000 in
theorem mul64_ok (n : Nat) (w0 : World) (hn : n < 4294967296) :
    K.KC Try.prog 140 #[.int .u64 1, .int .u64 ((n : Nat) : Int)] w0 (fun v w' => v = .tuple #[.int .u64 0, .int .u64 n] ∧ K.Chg K.No w0 w') := by
  refine K.KC.mk (n := 51) Try.func140 rfl rfl [.int .u64 1, .int .u64 ((n : Nat) : Int)] rfl rfl ?_
  refine K.KW.seq ?_
  -- region 0 bits.go:470
  refine K.KW.region ?_
  refine K.RW.q rfl rfl (K.QR.k (v := .int .u64 0) (by kernel_rfl)) ?_
  refine K.RW.q rfl rfl (K.QR.k (v := .int .u64 0) (by kernel_rfl)) ?_
  refine K.RW.nil ?_
  refine K.thn_normal ?_
  refine K.KW.seq ?_
  -- region 1 bits.go:472
  refine K.KW.region ?_
  refine K.RW.q rfl rfl (K.QR.k (v := .int .u64 1) (by kernel_rfl)) ?_
  refine K.RW.q rfl rfl (K.QR.turn (v := .int .u64 (K.andK .u64 1 4294967295)) (K.QR.and rfl rfl rfl) (congrArg (Value.int .u64) (show (K.andK .u64 1 4294967295 : Int) = (1 : Int) from by decide))) ?_
  refine K.RW.q rfl rfl (K.QR.k (v := .int .u64 1) (by kernel_rfl)) ?_
  refine K.RW.nil ?_
  refine K.thn_normal ?_
  refine K.KW.seq ?_
  -- region 2 bits.go:473
  refine K.KW.region ?_
  refine K.RW.q rfl rfl (K.QR.k (v := .int .u64 1) (by kernel_rfl)) ?_
  refine K.RW.q rfl rfl (K.QR.k (v := .int .u64 0) (by kernel_rfl)) ?_
  refine K.RW.q rfl rfl (K.QR.k (v := .int .u64 0) (by kernel_rfl)) ?_
  refine K.RW.nil ?_
  refine K.thn_normal ?_
  refine K.KW.seq ?_
  -- region 3 bits.go:474
  refine K.KW.region ?_
  refine K.RW.q rfl rfl (K.QR.k (v := .int .u64 ((n : Nat) : Int)) (by kernel_rfl)) ?_
  refine K.RW.q rfl rfl (K.QR.turn (v := .int .u64 (K.andK .u64 ((n : Nat) : Int) 4294967295)) (K.QR.and rfl rfl rfl) (congrArg (Value.int .u64) (show (K.andK .u64 ((n : Nat) : Int) 4294967295 : Int) = (((n : Nat) : Int) : Int) from by exact andK_low hn))) ?_
  refine K.RW.q rfl rfl (K.QR.k (v := .int .u64 ((n : Nat) : Int)) (by kernel_rfl)) ?_
  refine K.RW.nil ?_
  refine K.thn_normal ?_
  refine K.KW.seq ?_
  -- region 4 bits.go:475
  refine K.KW.region ?_
  refine K.RW.q rfl rfl (K.QR.k (v := .int .u64 ((n : Nat) : Int)) (by kernel_rfl)) ?_
  refine K.RW.q rfl rfl (K.QR.turn (v := .int .u64 ((((n : Nat) : Int) : Int) / 2 ^ (32))) (K.QR.shr (m := 32) rfl rfl rfl (by show _ ≤ 64; omega) (by omega)) (congrArg (Value.int .u64) (show ((((n : Nat) : Int) : Int) / 2 ^ (32) : Int) = (0 : Int) from by exact shr32_0 hn))) ?_
  refine K.RW.q rfl rfl (K.QR.k (v := .int .u64 0) (by kernel_rfl)) ?_
  refine K.RW.nil ?_
  refine K.thn_normal ?_
  refine K.KW.seq ?_
  -- region 5 bits.go:476
  refine K.KW.region ?_
  refine K.RW.q rfl rfl (K.QR.k (v := .int .u64 1) (by kernel_rfl)) ?_
  refine K.RW.q rfl rfl (K.QR.k (v := .int .u64 ((n : Nat) : Int)) (by kernel_rfl)) ?_
  refine K.RW.q rfl rfl (K.QR.turn (v := .int .u64 ((1 * n : Nat) : Int)) (K.QR.nu64 ((1 : Int) * (((n : Nat) : Int) : Int)) ((1 * n : Nat) : Int) (by kernel_rfl) (by omega)) (congrArg (Value.int .u64) (show (((1 * n : Nat) : Int) : Int) = (((n : Nat) : Int) : Int) from by omega))) ?_
  refine K.RW.q rfl rfl (K.QR.k (v := .int .u64 ((n : Nat) : Int)) (by kernel_rfl)) ?_
  refine K.RW.nil ?_
  refine K.thn_normal ?_
  refine K.KW.seq ?_
  -- region 6 bits.go:477
  refine K.KW.region ?_
  refine K.RW.q rfl rfl (K.QR.k (v := .int .u64 0) (by kernel_rfl)) ?_
  refine K.RW.q rfl rfl (K.QR.k (v := .int .u64 ((n : Nat) : Int)) (by kernel_rfl)) ?_
  refine K.RW.q rfl rfl (K.QR.turn (v := .int .u64 ((0 * n : Nat) : Int)) (K.QR.nu64 ((0 : Int) * (((n : Nat) : Int) : Int)) ((0 * n : Nat) : Int) (by kernel_rfl) (by omega)) (congrArg (Value.int .u64) (show (((0 * n : Nat) : Int) : Int) = (0 : Int) from by omega))) ?_
  refine K.RW.q rfl rfl (K.QR.k (v := .int .u64 ((n : Nat) : Int)) (by kernel_rfl)) ?_
  refine K.RW.q rfl rfl (K.QR.turn (v := .int .u64 ((((n : Nat) : Int) : Int) / 2 ^ (32))) (K.QR.shr (m := 32) rfl rfl rfl (by show _ ≤ 64; omega) (by omega)) (congrArg (Value.int .u64) (show ((((n : Nat) : Int) : Int) / 2 ^ (32) : Int) = (0 : Int) from by exact shr32_0 hn))) ?_
  refine K.RW.q rfl rfl (K.QR.k (v := .int .u64 0) (by kernel_rfl)) ?_
  refine K.RW.q rfl rfl (K.QR.k (v := .int .u64 0) (by kernel_rfl)) ?_
  refine K.RW.nil ?_
  refine K.thn_normal ?_
  refine K.KW.seq ?_
  -- region 7 bits.go:478
  refine K.KW.region ?_
  refine K.RW.q rfl rfl (K.QR.k (v := .int .u64 0) (by kernel_rfl)) ?_
  refine K.RW.q rfl rfl (K.QR.turn (v := .int .u64 (K.andK .u64 0 4294967295)) (K.QR.and rfl rfl rfl) (congrArg (Value.int .u64) (show (K.andK .u64 0 4294967295 : Int) = (0 : Int) from by decide))) ?_
  refine K.RW.q rfl rfl (K.QR.k (v := .int .u64 0) (by kernel_rfl)) ?_
  refine K.RW.nil ?_
  refine K.thn_normal ?_
  refine K.KW.seq ?_
  -- region 8 bits.go:479
  refine K.KW.region ?_
  refine K.RW.q rfl rfl (K.QR.k (v := .int .u64 0) (by kernel_rfl)) ?_
  refine K.RW.q rfl rfl (K.QR.k (v := .int .u64 0) (by kernel_rfl)) ?_
  refine K.RW.q rfl rfl (K.QR.k (v := .int .u64 0) (by kernel_rfl)) ?_
  refine K.RW.nil ?_
  refine K.thn_normal ?_
  refine K.KW.seq ?_
  -- region 9 bits.go:480
  refine K.KW.region ?_
  refine K.RW.q rfl rfl (K.QR.k (v := .int .u64 0) (by kernel_rfl)) ?_
  refine K.RW.q rfl rfl (K.QR.k (v := .int .u64 1) (by kernel_rfl)) ?_
  refine K.RW.q rfl rfl (K.QR.k (v := .int .u64 0) (by kernel_rfl)) ?_
  refine K.RW.q rfl rfl (K.QR.k (v := .int .u64 0) (by kernel_rfl)) ?_
  refine K.RW.q rfl rfl (K.QR.k (v := .int .u64 0) (by kernel_rfl)) ?_
  refine K.RW.q rfl rfl (K.QR.k (v := .int .u64 0) (by kernel_rfl)) ?_
  refine K.RW.nil ?_
  refine K.thn_normal ?_
  refine K.KW.seq ?_
  -- region 10 bits.go:481
  refine K.KW.region ?_
  refine K.RW.q rfl rfl (K.QR.k (v := .int .u64 0) (by kernel_rfl)) ?_
  refine K.RW.q rfl rfl (K.QR.k (v := .int .u64 0) (by kernel_rfl)) ?_
  refine K.RW.q rfl rfl (K.QR.k (v := .int .u64 0) (by kernel_rfl)) ?_
  refine K.RW.q rfl rfl (K.QR.k (v := .int .u64 0) (by kernel_rfl)) ?_
  refine K.RW.q rfl rfl (K.QR.k (v := .int .u64 0) (by kernel_rfl)) ?_
  refine K.RW.q rfl rfl (K.QR.k (v := .int .u64 0) (by kernel_rfl)) ?_
  refine K.RW.q rfl rfl (K.QR.k (v := .int .u64 0) (by kernel_rfl)) ?_
  refine K.RW.q rfl rfl (K.QR.k (v := .int .u64 0) (by kernel_rfl)) ?_
  refine K.RW.q rfl rfl (K.QR.k (v := .int .u64 0) (by kernel_rfl)) ?_
  refine K.RW.nil ?_
  refine K.thn_normal ?_
  refine K.KW.seq ?_
  -- region 11 bits.go:482
  refine K.KW.region ?_
  refine K.RW.q rfl rfl (K.QR.k (v := .int .u64 1) (by kernel_rfl)) ?_
  refine K.RW.q rfl rfl (K.QR.k (v := .int .u64 ((n : Nat) : Int)) (by kernel_rfl)) ?_
  refine K.RW.q rfl rfl (K.QR.turn (v := .int .u64 ((1 * n : Nat) : Int)) (K.QR.nu64 ((1 : Int) * (((n : Nat) : Int) : Int)) ((1 * n : Nat) : Int) (by kernel_rfl) (by omega)) (congrArg (Value.int .u64) (show (((1 * n : Nat) : Int) : Int) = (((n : Nat) : Int) : Int) from by omega))) ?_
  refine K.RW.q rfl rfl (K.QR.k (v := .int .u64 ((n : Nat) : Int)) (by kernel_rfl)) ?_
  refine K.RW.nil ?_
  refine K.thn_normal ?_
  refine K.KW.ret ?_
  refine ⟨.inr rfl, rfl, (.tuple #[.int .u64 0, .int .u64 ((n : Nat) : Int)]), K.res2 rfl rfl rfl, ?_⟩
  exact ⟨rfl, (K.Chg.refl _)⟩

set_option maxHeartbeats 1000000 in
set_option maxRecDepth 100000 in
theorem mulBits_ok (n : Nat) (w0 : World) (hn : n < 4294967296) :
    K.KC Try.prog 128 #[.int .u64 1, .int .u64 ((n : Nat) : Int)] w0 (fun v w' => v = .tuple #[.int .u64 0, .int .u64 n] ∧ K.Chg K.No w0 w') := by
  refine K.KC.mk (n := 30) Try.func128 rfl rfl [.int .u64 1, .int .u64 ((n : Nat) : Int)] rfl rfl ?_
  refine K.KW.seq ?_
  -- region 0 bits.go:445
  refine K.KW.region ?_
  refine K.RW.q rfl rfl (K.QR.k (v := .int .u64 0) (by kernel_rfl)) ?_
  refine K.RW.q rfl rfl (K.QR.k (v := .int .u64 0) (by kernel_rfl)) ?_
  refine K.RW.nil ?_
  refine K.thn_normal ?_
  refine K.KW.seq ?_
  refine K.KW.ifF rfl ?_
  refine K.KW.skip ?_
  refine K.thn_normal ?_
  refine K.KW.seq ?_
  -- region 3 bits.go:450
  refine K.KW.region ?_
  refine K.RW.q rfl rfl (K.QR.k (v := .int .u64 1) (by kernel_rfl)) ?_
  refine K.RW.q rfl rfl (K.QR.k (v := .int .u64 ((n : Nat) : Int)) (by kernel_rfl)) ?_
  refine K.RW.l rfl (K.OW.call rfl [.int .u64 1, .int .u64 ((n : Nat) : Int)] rfl rfl (by kernel_rfl) (mul64_ok n _ (by omega)) ?_) 
  rintro _ w_2 ⟨rfl, c_1⟩
  have c_3 := c_1
  have z_4 := c_3.size
  have zz_5 := c_1.size
  refine K.RW.q rfl rfl (K.QR.k (v := .tuple #[.int .u64 0, .int .u64 ((n : Nat) : Int)]) (by kernel_rfl)) ?_
  refine K.RW.q rfl rfl (K.QR.k (v := .int .u64 0) (by kernel_rfl)) ?_
  refine K.RW.q rfl rfl (K.QR.k (v := .int .u64 ((n : Nat) : Int)) (by kernel_rfl)) ?_
  refine K.RW.q rfl rfl (K.QR.k (v := .int .u64 0) (by kernel_rfl)) ?_
  refine K.RW.q rfl rfl (K.QR.k (v := .int .u64 ((n : Nat) : Int)) (by kernel_rfl)) ?_
  refine K.RW.nil ?_
  refine K.thn_normal ?_
  refine K.KW.seq ?_
  -- region 4 bits.go:451
  refine K.KW.region ?_
  refine K.RW.q rfl rfl (K.QR.k (v := .int .u64 0) (by kernel_rfl)) ?_
  refine K.RW.q rfl rfl (K.QR.k (v := .int .u64 ((n : Nat) : Int)) (by kernel_rfl)) ?_
  refine K.RW.q rfl rfl (K.QR.k (v := .int .u64 0) (by kernel_rfl)) ?_
  refine K.RW.q rfl rfl (K.QR.k (v := .int .u64 ((n : Nat) : Int)) (by kernel_rfl)) ?_
  refine K.RW.nil ?_
  refine K.thn_normal ?_
  refine K.KW.ret ?_
  refine ⟨.inr rfl, rfl, (.tuple #[.int .u64 0, .int .u64 ((n : Nat) : Int)]), K.res2 rfl rfl rfl, ?_⟩
  exact ⟨rfl, c_3⟩

set_option maxHeartbeats 1000000 in
set_option maxRecDepth 100000 in
theorem repeat_ok (b n : Nat) (w0 : World) (hn : n ≤ 262144) (hx : K.RowE w0 (some ⟨b, 0, none⟩) 1 8 (fun i => cLine ((zeroL 1).getD i []))) :
    K.KC Try.prog 110 #[.slice (some ⟨b, 0, none⟩) 1 1, .int .i64 ((n : Nat) : Int)] w0 (fun v w' => ∃ a, v = .slice a n n ∧ K.Chg K.No w0 w' ∧ K.Own w' w0.heap.size 148 8 a n n ((zeroL n).flatMap cLine)) := by
  refine K.KC.mk (n := 48) Try.func110 rfl rfl [.slice (some ⟨b, 0, none⟩) 1 1, .int .i64 ((n : Nat) : Int)] rfl rfl ?_
  refine K.KW.seq ?_
  -- region 0 slices.go:514
  refine K.KW.region ?_
  refine K.RW.q rfl rfl (K.QR.k (v := .slice none 0 0) (by kernel_rfl)) ?_
  refine K.RW.nil ?_
  refine K.thn_normal ?_
  refine K.KW.seq ?_
  refine K.KW.seq ?_
  -- region 1 slices.go:515
  refine K.KW.region ?_
  refine K.RW.q rfl rfl (K.QR.k (v := .int .i64 ((n : Nat) : Int)) (by kernel_rfl)) ?_
  refine K.RW.q rfl rfl (K.QR.nice (v := .bool (decide ((((n : Nat) : Int) : Int) < (0 : Int)))) (by kernel_rfl) (congrArg Value.bool (decide_eq_false (by omega)))) ?_
  refine K.RW.nil ?_
  refine K.thn_normal ?_
  refine K.KW.ifF rfl ?_
  refine K.KW.skip ?_
  refine K.thn_normal ?_
  refine K.KW.seq ?_
  -- region 3 slices.go:520
  refine K.KW.region ?_
  refine K.RW.q rfl rfl (K.QR.k (v := .slice (some ⟨b, 0, none⟩) 1 1) (by kernel_rfl)) ?_
  refine K.RW.q rfl rfl (K.QR.len (P := Try.prog) rfl rfl Try.underlying116) ?_
  refine K.RW.q rfl rfl (K.QR.k (v := .int .u64 1) (by kernel_rfl)) ?_
  refine K.RW.q rfl rfl (K.QR.k (v := .int .i64 ((n : Nat) : Int)) (by kernel_rfl)) ?_
  refine K.RW.q rfl rfl (K.QR.nice (v := .int .u64 (IntKind.u64.wrap ((n : Nat) : Int))) (by kernel_rfl) (congrArg (Value.int .u64) (IntWalk.u64_in _ (by omega)))) ?_
  refine K.RW.l rfl (K.OW.call rfl [.int .u64 1, .int .u64 ((n : Nat) : Int)] rfl rfl (by kernel_rfl) (mulBits_ok n _ (by omega)) ?_) 
  rintro _ w_2 ⟨rfl, c_1⟩
  have c_3 := c_1
  have z_4 := c_3.size
  have zz_5 := c_1.size
  refine K.RW.q rfl rfl (K.QR.k (v := .tuple #[.int .u64 0, .int .u64 ((n : Nat) : Int)]) (by kernel_rfl)) ?_
  refine K.RW.q rfl rfl (K.QR.k (v := .int .u64 0) (by kernel_rfl)) ?_
  refine K.RW.q rfl rfl (K.QR.k (v := .int .u64 ((n : Nat) : Int)) (by kernel_rfl)) ?_
  refine K.RW.q rfl rfl (K.QR.k (v := .int .u64 0) (by kernel_rfl)) ?_
  refine K.RW.q rfl rfl (K.QR.k (v := .int .u64 ((n : Nat) : Int)) (by kernel_rfl)) ?_
  refine K.RW.nil ?_
  refine K.thn_normal ?_
  refine K.KW.seq ?_
  refine K.KW.seq ?_
  -- region 4 slices.go:521
  refine K.KW.region ?_
  refine K.RW.q rfl rfl (K.QR.k (v := .int .u64 0) (by kernel_rfl)) ?_
  refine K.RW.q rfl rfl (K.QR.k (v := .bool false) (by kernel_rfl)) ?_
  refine K.RW.q rfl rfl (K.QR.k (v := .bool false) (by kernel_rfl)) ?_
  refine K.RW.q rfl (by kernel_rfl) (K.QR.k (v := .int .u64 ((n : Nat) : Int)) (by kernel_rfl)) ?_
  refine K.RW.q rfl (by kernel_rfl) (K.QR.nice (v := .bool (decide ((((n : Nat) : Int) : Int) > (9223372036854775807 : Int)))) (by kernel_rfl) (congrArg Value.bool (decide_eq_false (by omega)))) ?_
  refine K.RW.q rfl rfl (K.QR.k (v := .bool false) (by kernel_rfl)) ?_
  refine K.RW.nil ?_
  refine K.thn_normal ?_
  refine K.KW.ifF rfl ?_
  refine K.KW.skip ?_
  refine K.thn_normal ?_
  refine K.KW.seq ?_
  -- region 6 slices.go:525
  refine K.KW.region ?_
  refine K.RW.q rfl rfl (K.QR.k (v := .int .u64 ((n : Nat) : Int)) (by kernel_rfl)) ?_
  refine K.RW.q rfl rfl (K.QR.nice (v := .int .i64 (IntKind.i64.wrap ((n : Nat) : Int))) (by kernel_rfl) (congrArg (Value.int .i64) (IntWalk.i64_in _ (by omega)))) ?_
  refine K.RW.l rfl (K.OW.mk (P := Try.prog) (m := n) (cc := cLine) (z := .agg #[.int .u64 0, .int .u64 0, .int .u64 0, .int .u64 0, .int .u64 0, .int .u64 0, .int .u64 0, .int .u64 0]) (size := 8) (bytes := 64) (base := w0.heap.size) ([0, 0, 0, 0, 0, 0, 0, 0] : List Int) rfl rfl rfl rfl Try.underlying116 (by kernel_rfl) rfl rfl (by unfold maxLen; omega) (by omega) (by omega) ?_) 
  intro w_6 r_7 hr_8 e_9 hs_10 o_11
  have c_12 := c_3.no e_9
  have z_13 := c_12.size
  have zz_14 := e_9.size
  have ln_15 : ((List.replicate n ([0, 0, 0, 0, 0, 0, 0, 0] : List Int))).length = n := List.length_replicate
  refine K.RW.q rfl rfl (K.QR.k (v := .slice (some ⟨r_7, 0, none⟩) n n) (by kernel_rfl)) ?_
  refine K.RW.nil ?_
  refine K.thn_normal ?_
  refine K.KW.seq ?_
  -- region 7 slices.go:526
  refine K.KW.region ?_
  refine K.RW.q rfl rfl (K.QR.k (v := .slice (some ⟨r_7, 0, none⟩) n n) (by kernel_rfl)) ?_
  refine K.RW.q rfl rfl (K.QR.k (v := .slice (some ⟨b, 0, none⟩) 1 1) (by kernel_rfl)) ?_
  refine K.RW.q rfl rfl (QR.copyZ (g := r_7) (off := 0) (N := n) (min 1 n) rfl rfl rfl (fun _ => rfl) Try.underlying116 rfl o_11 (fun _ => by omega) (fun q hq => zeroRowE (hx.no c_12) (m := 1) (by omega))) ?_
  refine K.RW.q rfl rfl (K.QR.k (v := .int .i64 ((min 1 n : Nat) : Int)) (by kernel_rfl)) ?_
  refine K.RW.nil ?_
  refine K.thn_normal ?_
  refine K.KW.seq ?_
  refine K.KW.block ?_
  refine K.KW.loop (fun m_ F_ w_16 => ∃ (k : Nat), m_ = n - k ∧ K.Sl F_ [(0, .slice (some ⟨b, 0, none⟩) 1 1), (1, .int .i64 ((n : Nat) : Int)), (4, .slice none 0 0), (7, .slice (some ⟨r_7, 0, none⟩) n n), (8, .int .i64 ((k : Nat) : Int)), (48, undef)] ∧ k ≤ n ∧ (k = 0 → n = 0) ∧ K.Chg K.No w0 w_16 ∧ K.Own w_16 w0.heap.size 148 8 (some ⟨r_7, 0, none⟩) n n (((List.replicate n ([0, 0, 0, 0, 0, 0, 0, 0] : List Int))).flatMap cLine)) ((fun (k : Nat) => n - k) (min 1 n)) ?_ ?_
  · -- the loop begins
    exact ⟨min 1 n, rfl, ⟨by rfl, by rfl, by rfl, by rfl, by rfl, by rfl, trivial⟩, (by omega), (by omega), c_12, o_11⟩
  · -- a round
    intro m_18 F_19 w_16 hI
    obtain ⟨k, rfl, sl_20, p_22, p_23, c_21, f_24⟩ := hI
    rw [← K.Sl.puts sl_20]; clear sl_20
    have z_25 := c_21.size
    refine K.KW.seq ?_
    refine K.KW.seq ?_
    -- region 8 slices.go:527
    refine K.KW.region ?_
    refine K.RW.q rfl rfl (K.QR.k (v := .int .i64 ((k : Nat) : Int)) (by kernel_rfl)) ?_
    refine K.RW.q rfl rfl (K.QR.k (v := .slice (some ⟨r_7, 0, none⟩) n n) (by kernel_rfl)) ?_
    refine K.RW.q rfl rfl (K.QR.len (P := Try.prog) rfl rfl Try.underlying116) ?_
    by_cases h_26 : (((k : Nat) : Int) : Int) < (((n : Nat) : Int) : Int)
    ·  -- yes
      refine K.RW.q rfl rfl (K.QR.nice (v := .bool (decide ((((k : Nat) : Int) : Int) < (((n : Nat) : Int) : Int)))) (by kernel_rfl) (congrArg Value.bool (decide_eq_true h_26))) ?_
      refine K.RW.nil ?_
      refine K.thn_normal ?_
      refine K.KW.ifT rfl ?_
      refine K.KW.skip ?_
      refine K.thn_normal ?_
      refine K.KW.block ?_
      -- region 9 slices.go:528
      refine K.KW.drawn (fun w => K.Chg K.No w0 w) (by kernel_rfl) ?_
      intro w_27 e_28 hs_29
      have c_31 := c_21.no e_28
      have z_32 := c_31.size
      have zz_33 := e_28.size
      have f_34 := f_24.no e_28
      have hS_30 : (fun w => K.Chg K.No w0 w) w_27 := c_31
      refine K.DW.q 0 (by kernel_rfl) rfl rfl (by kernel_rfl) rfl (fun w hS => K.QR.k (v := .int .i64 ((k : Nat) : Int)) (by kernel_rfl)) hS_30 ?_
      refine K.DW.q 1 (by kernel_rfl) rfl rfl (by kernel_rfl) rfl (fun w hS => K.QR.k (v := .slice (some ⟨r_7, 0, none⟩) n n) (by kernel_rfl)) hS_30 ?_
      refine K.DW.q 2 (by kernel_rfl) rfl rfl (by kernel_rfl) rfl (fun w hS => K.QR.k (v := .int .i64 ((k : Nat) : Int)) (by kernel_rfl)) hS_30 ?_
      refine K.DW.q 3 (by kernel_rfl) rfl rfl (by kernel_rfl) rfl (fun w hS => K.QR.slLo (size := 8) (m := n) (k := n - k) k rfl rfl rfl Try.underlying116 (by kernel_rfl) (by omega) rfl) hS_30 ?_
      refine K.DW.q 4 (by kernel_rfl) rfl rfl (by kernel_rfl) rfl (fun w hS => K.QR.k (v := .slice (some ⟨r_7, 0, none⟩) n n) (by kernel_rfl)) hS_30 ?_
      refine K.DW.l 5 rfl (by kernel_rfl) rfl (K.OW.q rfl (K.QR.k (v := .int .i64 ((k : Nat) : Int)) (by kernel_rfl)) ?_)
      refine ⟨.inl hS_30, ?_⟩
      refine K.DW.l 6 rfl (by kernel_rfl) rfl (K.OW.q rfl (K.QR.slHi (size := 8) k rfl rfl rfl Try.underlying116 (by kernel_rfl) (by omega)) ?_)
      refine ⟨.inl hS_30, ?_⟩
      refine K.DW.l 7 rfl (by kernel_rfl) rfl (K.OW.q rfl (QR.copyZ (g := r_7) (off := 0 + k * 8) (N := n) (min k (n - k)) rfl rfl rfl (fun h => shift_lt (by omega)) Try.underlying116 rfl f_34 (fun _ => by omega) (fun q hq => by have h0 := zeroRow f_34 (q := q) (by omega); rw [Nat.zero_add]; exact h0)) ?_)
      refine ⟨.inl hS_30, ?_⟩
      refine K.DW.l 8 rfl (by kernel_rfl) rfl (K.OW.q rfl (K.QR.n64 ((((k : Nat) : Int) : Int) + (((min k (n - k) : Nat) : Int) : Int)) ((k + min k (n - k) : Nat) : Int) (by kernel_rfl) (by omega)) ?_)
      refine ⟨.inl hS_30, ?_⟩
      refine K.DW.l 9 rfl (by kernel_rfl) rfl (K.OW.q rfl (K.QR.k (v := .int .i64 ((k + min k (n - k) : Nat) : Int)) (by kernel_rfl)) ?_)
      refine ⟨.inl hS_30, ?_⟩
      refine K.DW.done (by kernel_rfl) ?_
      refine K.blk_normal ?_
      refine K.thn_normal ?_
      refine ⟨_, ?_, k + min k (n - k), rfl, ⟨by rfl, by rfl, by rfl, by rfl, by rfl, by rfl, trivial⟩, (by omega), (by omega), c_31, f_34⟩
      omega
    ·  -- no
      refine K.RW.q rfl rfl (K.QR.nice (v := .bool (decide ((((k : Nat) : Int) : Int) < (((n : Nat) : Int) : Int)))) (by kernel_rfl) (congrArg Value.bool (decide_eq_false h_26))) ?_
      refine K.RW.nil ?_
      refine K.thn_normal ?_
      refine K.KW.ifF rfl ?_
      refine K.KW.exit ?_
      refine K.thn_exit ?_
      refine K.thn_exit ?_
      refine K.blk_hit ?_
      refine K.thn_normal ?_
      refine K.KW.seq ?_
      -- region 10 slices.go:530
      refine K.KW.region ?_
      refine K.RW.q rfl rfl (K.QR.k (v := .slice (some ⟨r_7, 0, none⟩) n n) (by kernel_rfl)) ?_
      refine K.RW.q rfl rfl (K.QR.k (v := .slice (some ⟨r_7, 0, none⟩) n n) (by kernel_rfl)) ?_
      refine K.RW.nil ?_
      refine K.thn_normal ?_
      refine K.KW.ret ?_
      refine ⟨.inr rfl, rfl, (.slice (some ⟨r_7, 0, none⟩) n n), K.res1 rfl rfl, ?_⟩
      exact ⟨_, rfl, c_21, f_24⟩

end Go.Proofs.Ytgeihjiichdpbaa
