/- Contracts of package layout and of the reference of layer 6. -/
import Derived.Test.YtcmlompigmhddaaFlist
namespace Go.Proofs.Ytcmlompigmhddaa
open Go.RowKit
set_option linter.unusedVariables false
attribute [local irreducible] K.KW K.RW K.DW K.OW K.QR K.KC

structure Cfg where
  th : Int
  sl : Int
  lo : Int
  bu : Int
  deriving DecidableEq
structure Nm where
  k : Int
  a : Int
  b : Int
  deriving DecidableEq
def nm0 : Nm := ⟨0, 0, 0⟩
def cNm (x : Nm) : List Value := [.int .i64 x.k, .int .i64 x.a, .int .i64 x.b]
abbrev RNm (w : World) (a : Option Addr) (l : List Nm) : Prop := K.RowE w a l.length 3 (fun i => cNm (l.getD i nm0))
def cCfg (c : Cfg) : List Value := [.int .i64 c.th, .int .i64 c.sl, .int .i64 c.lo, .int .i64 c.bu]
def cfgOk (c : Cfg) : Prop := (1 ≤ c.th ∧ c.th ≤ 64) ∧ (1 ≤ c.sl ∧ c.sl ≤ 65536) ∧ (1 ≤ c.lo ∧ c.lo ≤ 64) ∧ (1 ≤ c.bu ∧ c.bu ≤ 64)
instance (c : Cfg) : Decidable (cfgOk c) := by unfold cfgOk; infer_instance
def cfgSmall (c : Cfg) : Prop := c.th ≤ 12 ∧ c.sl ≤ 60
/-- any config that came in -/
def cfgIn (c : Cfg) : Prop := (-9223372036854775808 ≤ c.th ∧ c.th ≤ 9223372036854775807) ∧ (-9223372036854775808 ≤ c.sl ∧ c.sl ≤ 9223372036854775807) ∧ (-9223372036854775808 ≤ c.lo ∧ c.lo ≤ 9223372036854775807) ∧ (-9223372036854775808 ≤ c.bu ∧ c.bu ≤ 9223372036854775807)
def lsz (c : Cfg) : Int := (c.lo + 7) / 8
def tFirst (c : Cfg) : Int := 5 + (c.bu + 7) / 8
def lFirst (c : Cfg) : Int := tFirst c + c.th
def tl (c : Cfg) : Int := c.th * lsz c
def sFirst (c : Cfg) : Int := lFirst c + tl c
def lns (c : Cfg) : Int := sFirst c + c.sl
theorem lsz_bd {c : Cfg} (h : cfgOk c) : 1 ≤ lsz c ∧ lsz c ≤ 8 := by unfold cfgOk at h; unfold lsz; omega
theorem mul_bd {a b A B : Int} (ha : 0 ≤ a) (hA : a ≤ A) (hb : 0 ≤ b) (hB : b ≤ B) : 0 ≤ a * b ∧ a * b ≤ A * B :=
  ⟨Int.mul_nonneg ha hb, Int.le_trans (Int.mul_le_mul_of_nonneg_right hA hb) (Int.mul_le_mul_of_nonneg_left hB (Int.le_trans ha hA))⟩
theorem tl_bd {c : Cfg} (h : cfgOk c) : 0 ≤ tl c ∧ tl c ≤ 512 := by
  have h1 := lsz_bd h
  unfold cfgOk at h
  have := mul_bd (a := c.th) (b := lsz c) (A := 64) (B := 8) (by omega) (by omega) (by omega) (by omega)
  unfold tl; omega
theorem lay_bd {c : Cfg} (h : cfgOk c) : (6 ≤ tFirst c ∧ tFirst c ≤ 13) ∧ (7 ≤ lFirst c ∧ lFirst c ≤ 77) ∧ (7 ≤ sFirst c ∧ sFirst c ≤ 589) ∧ (8 ≤ lns c ∧ lns c ≤ 66125) ∧ (1 ≤ lsz c ∧ lsz c ≤ 8) ∧ lns c = sFirst c + c.sl ∧ lFirst c = tFirst c + c.th ∧ sFirst c = lFirst c + tl c := by
  have h1 := lsz_bd h
  have h2 := tl_bd h
  unfold cfgOk at h
  unfold lns sFirst lFirst tFirst
  omega
def wordS (c : Cfg) (n many first size at_ : Int) : Int := if 0 ≤ n ∧ n < many then (first + size * n) * 8 + at_ else lns c * 8
def bucketS (c : Cfg) (n : Int) : Int := if 0 ≤ n ∧ n < c.bu then 40 + n else lns c * 8
def threadS (c : Cfg) (t at_ : Int) : Int := wordS c t c.th (tFirst c) 1 at_
def logS (c : Cfg) (t n : Int) : Int := if 0 ≤ n ∧ n < c.lo then wordS c t c.th (lFirst c) (lsz c) n else lns c * 8
def slotS (c : Cfg) (s at_ : Int) : Int := wordS c s c.sl (sFirst c) 1 at_
def annS (c : Cfg) (t : Int) : Int := if 0 ≤ t ∧ t < c.th then -3 - t else lns c * 8
def aftS (c : Cfg) (s : Int) : Int := if 0 ≤ s ∧ s < c.sl then -3 - c.th - s else lns c * 8
def slotOf (c : Cfg) (at_ : Int) : Int := if 0 ≤ at_ ∧ sFirst c ≤ at_ / 8 ∧ at_ / 8 < lns c then at_ / 8 - sFirst c else -1
def toldS (c : Cfg) (n : Nm) : Int :=
  if n.k = 2 then 16 else if n.k = 3 then 24 else if n.k = 4 then 32 else if n.k = 5 then bucketS c n.a else if n.k = 6 then threadS c n.a 0 else if n.k = 7 then threadS c n.a 1 else
  if n.k = 8 then logS c n.a n.b else if n.k = 9 then slotS c n.a 0 else if n.k = 10 then slotS c n.a 1 else if n.k = 11 then slotS c n.a 2 else if n.k = 12 then slotS c n.a 3 else if n.k = 13 then slotS c n.a 4 else
  if n.k = 14 then -1 else if n.k = 15 then -2 else if n.k = 16 then annS c n.a else aftS c n.a
abbrev LayB (w : World) (b : Nat) (c : Cfg) : Prop := K.Blk w b 100 [.int .i64 c.th, .int .i64 c.sl, .int .i64 c.lo, .int .i64 c.bu, .int .i64 (tFirst c), .int .i64 (lFirst c), .int .i64 (lsz c), .int .i64 (sFirst c), .int .i64 (lns c)]

theorem eqCfg_t {a0 a1 a2 a3 b0 b1 b2 b3 : Int} (h : a0 = b0 ∧ a1 = b1 ∧ a2 = b2 ∧ a3 = b3) (w : World) : (Op.equal 63 (.agg #[.int .i64 a0, .int .i64 a1, .int .i64 a2, .int .i64 a3]) (.agg #[.int .i64 b0, .int .i64 b1, .int .i64 b2, .int .i64 b3])).run Try.prog w = .ok true w := by
  obtain ⟨rfl, rfl, rfl, rfl⟩ := h
  simp [go_sem, Op.equal, Op.maxDepth]
theorem eqCfg_f {a0 a1 a2 a3 b0 b1 b2 b3 : Int} (h : ¬ (a0 = b0 ∧ a1 = b1 ∧ a2 = b2 ∧ a3 = b3)) (w : World) : (Op.equal 63 (.agg #[.int .i64 a0, .int .i64 a1, .int .i64 a2, .int .i64 a3]) (.agg #[.int .i64 b0, .int .i64 b1, .int .i64 b2, .int .i64 b3])).run Try.prog w = .ok false w := by
  by_cases h0 : a0 = b0 <;> by_cases h1 : a1 = b1 <;> by_cases h2 : a2 = b2 <;> by_cases h3 : a3 = b3 <;> first | (exfalso; exact h ⟨h0, h1, h2, h3⟩) | simp [go_sem, Op.equal, Op.maxDepth, h0, h1, h2, h3]

theorem eqNm_t {a0 a1 a2 b0 b1 b2 : Int} (h : a0 = b0 ∧ a1 = b1 ∧ a2 = b2) (w : World) : (Op.equal 81 (.agg #[.int .i64 a0, .int .i64 a1, .int .i64 a2]) (.agg #[.int .i64 b0, .int .i64 b1, .int .i64 b2])).run Try.prog w = .ok true w := by
  obtain ⟨rfl, rfl, rfl⟩ := h
  simp [go_sem, Op.equal, Op.maxDepth]
theorem eqNm_f {a0 a1 a2 b0 b1 b2 : Int} (h : ¬ (a0 = b0 ∧ a1 = b1 ∧ a2 = b2)) (w : World) : (Op.equal 81 (.agg #[.int .i64 a0, .int .i64 a1, .int .i64 a2]) (.agg #[.int .i64 b0, .int .i64 b1, .int .i64 b2])).run Try.prog w = .ok false w := by
  by_cases h0 : a0 = b0 <;> by_cases h1 : a1 = b1 <;> by_cases h2 : a2 = b2 <;> first | (exfalso; exact h ⟨h0, h1, h2⟩) | simp [go_sem, Op.equal, Op.maxDepth, h0, h1, h2]

set_option maxHeartbeats 1000000 in
set_option maxRecDepth 100000 in
theorem from_ok (n : Int) (most : Int) (w0 : World) :
    K.KC Try.prog 82 #[.int .i64 n, .int .i64 most] w0 (fun v w' => v = .bool (decide (1 ≤ n ∧ n ≤ most)) ∧ K.Chg K.No w0 w') := by
  refine K.KC.mk (n := 12) Try.func82 rfl rfl [.int .i64 n, .int .i64 most] rfl rfl ?_
  refine K.KW.seq ?_
  -- region 0 super.go:28
  refine K.KW.region ?_
  refine K.RW.q rfl rfl (K.QR.k (v := .bool false) (by kernel_rfl)) ?_
  refine K.RW.nil ?_
  refine K.thn_normal ?_
  refine K.KW.seq ?_
  -- region 1 super.go:28
  refine K.KW.region ?_
  refine K.RW.q rfl rfl (K.QR.k (v := .int .i64 n) (by kernel_rfl)) ?_
  by_cases h_1 : (n : Int) ≥ (1 : Int)
  ·  -- yes
    refine K.RW.q rfl rfl (K.QR.nice (v := .bool (decide ((n : Int) ≥ (1 : Int)))) (by kernel_rfl) (congrArg Value.bool (decide_eq_true h_1))) ?_
    refine K.RW.q rfl rfl (K.QR.k (v := .bool true) (by kernel_rfl)) ?_
    refine K.RW.q rfl (by kernel_rfl) (K.QR.k (v := .int .i64 n) (by kernel_rfl)) ?_
    refine K.RW.q rfl (by kernel_rfl) (K.QR.k (v := .int .i64 most) (by kernel_rfl)) ?_
    by_cases h_2 : (n : Int) ≤ (most : Int)
    ·  -- yes
      refine K.RW.q rfl (by kernel_rfl) (K.QR.nice (v := .bool (decide ((n : Int) ≤ (most : Int)))) (by kernel_rfl) (congrArg Value.bool (decide_eq_true h_2))) ?_
      refine K.RW.q rfl rfl (K.QR.k (v := .bool true) (by kernel_rfl)) ?_
      refine K.RW.q rfl rfl (K.QR.k (v := .bool true) (by kernel_rfl)) ?_
      refine K.RW.nil ?_
      refine K.thn_normal ?_
      refine K.KW.ret ?_
      refine ⟨.inr rfl, (.bool true), K.res1 rfl rfl, ?_⟩
      exact ⟨congrArg Value.bool (by first | exact (decide_eq_true (by omega)).symm | exact (decide_eq_false (by omega)).symm), (K.Chg.refl _)⟩
    ·  -- no
      refine K.RW.q rfl (by kernel_rfl) (K.QR.nice (v := .bool (decide ((n : Int) ≤ (most : Int)))) (by kernel_rfl) (congrArg Value.bool (decide_eq_false h_2))) ?_
      refine K.RW.q rfl rfl (K.QR.k (v := .bool false) (by kernel_rfl)) ?_
      refine K.RW.q rfl rfl (K.QR.k (v := .bool false) (by kernel_rfl)) ?_
      refine K.RW.nil ?_
      refine K.thn_normal ?_
      refine K.KW.ret ?_
      refine ⟨.inr rfl, (.bool false), K.res1 rfl rfl, ?_⟩
      exact ⟨congrArg Value.bool (by first | exact (decide_eq_true (by omega)).symm | exact (decide_eq_false (by omega)).symm), (K.Chg.refl _)⟩
  ·  -- no
    refine K.RW.q rfl rfl (K.QR.nice (v := .bool (decide ((n : Int) ≥ (1 : Int)))) (by kernel_rfl) (congrArg Value.bool (decide_eq_false h_1))) ?_
    refine K.RW.q rfl rfl (K.QR.k (v := .bool false) (by kernel_rfl)) ?_
    refine K.RW.skip rfl (by kernel_rfl) ?_
    refine K.RW.skip rfl (by kernel_rfl) ?_
    refine K.RW.skip rfl (by kernel_rfl) ?_
    refine K.RW.q rfl rfl (K.QR.k (v := .bool false) (by kernel_rfl)) ?_
    refine K.RW.q rfl rfl (K.QR.k (v := .bool false) (by kernel_rfl)) ?_
    refine K.RW.nil ?_
    refine K.thn_normal ?_
    refine K.KW.ret ?_
    refine ⟨.inr rfl, (.bool false), K.res1 rfl rfl, ?_⟩
    exact ⟨congrArg Value.bool (by first | exact (decide_eq_true (by omega)).symm | exact (decide_eq_false (by omega)).symm), (K.Chg.refl _)⟩

set_option maxHeartbeats 1000000 in
set_option maxRecDepth 100000 in
theorem has_ok (n : Int) (many : Int) (w0 : World) :
    K.KC Try.prog 83 #[.int .i64 n, .int .i64 many] w0 (fun v w' => v = .bool (decide (0 ≤ n ∧ n < many)) ∧ K.Chg K.No w0 w') := by
  refine K.KC.mk (n := 12) Try.func83 rfl rfl [.int .i64 n, .int .i64 many] rfl rfl ?_
  refine K.KW.seq ?_
  -- region 0 layout.go:92
  refine K.KW.region ?_
  refine K.RW.q rfl rfl (K.QR.k (v := .bool false) (by kernel_rfl)) ?_
  refine K.RW.nil ?_
  refine K.thn_normal ?_
  refine K.KW.seq ?_
  -- region 1 layout.go:92
  refine K.KW.region ?_
  refine K.RW.q rfl rfl (K.QR.k (v := .int .i64 n) (by kernel_rfl)) ?_
  by_cases h_1 : (n : Int) ≥ (0 : Int)
  ·  -- yes
    refine K.RW.q rfl rfl (K.QR.nice (v := .bool (decide ((n : Int) ≥ (0 : Int)))) (by kernel_rfl) (congrArg Value.bool (decide_eq_true h_1))) ?_
    refine K.RW.q rfl rfl (K.QR.k (v := .bool true) (by kernel_rfl)) ?_
    refine K.RW.q rfl (by kernel_rfl) (K.QR.k (v := .int .i64 n) (by kernel_rfl)) ?_
    refine K.RW.q rfl (by kernel_rfl) (K.QR.k (v := .int .i64 many) (by kernel_rfl)) ?_
    by_cases h_2 : (n : Int) < (many : Int)
    ·  -- yes
      refine K.RW.q rfl (by kernel_rfl) (K.QR.nice (v := .bool (decide ((n : Int) < (many : Int)))) (by kernel_rfl) (congrArg Value.bool (decide_eq_true h_2))) ?_
      refine K.RW.q rfl rfl (K.QR.k (v := .bool true) (by kernel_rfl)) ?_
      refine K.RW.q rfl rfl (K.QR.k (v := .bool true) (by kernel_rfl)) ?_
      refine K.RW.nil ?_
      refine K.thn_normal ?_
      refine K.KW.ret ?_
      refine ⟨.inr rfl, (.bool true), K.res1 rfl rfl, ?_⟩
      exact ⟨congrArg Value.bool (by first | exact (decide_eq_true (by omega)).symm | exact (decide_eq_false (by omega)).symm), (K.Chg.refl _)⟩
    ·  -- no
      refine K.RW.q rfl (by kernel_rfl) (K.QR.nice (v := .bool (decide ((n : Int) < (many : Int)))) (by kernel_rfl) (congrArg Value.bool (decide_eq_false h_2))) ?_
      refine K.RW.q rfl rfl (K.QR.k (v := .bool false) (by kernel_rfl)) ?_
      refine K.RW.q rfl rfl (K.QR.k (v := .bool false) (by kernel_rfl)) ?_
      refine K.RW.nil ?_
      refine K.thn_normal ?_
      refine K.KW.ret ?_
      refine ⟨.inr rfl, (.bool false), K.res1 rfl rfl, ?_⟩
      exact ⟨congrArg Value.bool (by first | exact (decide_eq_true (by omega)).symm | exact (decide_eq_false (by omega)).symm), (K.Chg.refl _)⟩
  ·  -- no
    refine K.RW.q rfl rfl (K.QR.nice (v := .bool (decide ((n : Int) ≥ (0 : Int)))) (by kernel_rfl) (congrArg Value.bool (decide_eq_false h_1))) ?_
    refine K.RW.q rfl rfl (K.QR.k (v := .bool false) (by kernel_rfl)) ?_
    refine K.RW.skip rfl (by kernel_rfl) ?_
    refine K.RW.skip rfl (by kernel_rfl) ?_
    refine K.RW.skip rfl (by kernel_rfl) ?_
    refine K.RW.q rfl rfl (K.QR.k (v := .bool false) (by kernel_rfl)) ?_
    refine K.RW.q rfl rfl (K.QR.k (v := .bool false) (by kernel_rfl)) ?_
    refine K.RW.nil ?_
    refine K.thn_normal ?_
    refine K.KW.ret ?_
    refine ⟨.inr rfl, (.bool false), K.res1 rfl rfl, ?_⟩
    exact ⟨congrArg Value.bool (by first | exact (decide_eq_true (by omega)).symm | exact (decide_eq_false (by omega)).symm), (K.Chg.refl _)⟩

set_option maxHeartbeats 1000000 in
set_option maxRecDepth 100000 in
theorem sright_ok (c : Cfg) (w0 : World) :
    K.KC Try.prog 57 #[.agg #[.int .i64 c.th, .int .i64 c.sl, .int .i64 c.lo, .int .i64 c.bu]] w0 (fun v w' => v = .bool (decide (cfgOk c)) ∧ K.Chg K.No w0 w') := by
  refine K.KC.mk (n := 21) Try.func57 rfl rfl [.agg #[.int .i64 c.th, .int .i64 c.sl, .int .i64 c.lo, .int .i64 c.bu]] rfl rfl ?_
  refine K.KW.seq ?_
  -- region 0 super.go:31
  refine K.KW.region ?_
  refine K.RW.l rfl (K.OW.new (t := 63) rfl (fun r => .pointer (some ⟨r, 0, none⟩)) [.int .i64 c.th, .int .i64 c.sl, .int .i64 c.lo, .int .i64 c.bu] (by kernel_rfl) ?_) 
  intro w_1 r_2 hr_3 e_4 hs_5 b_6
  have c_7 := e_4
  have z_8 := c_7.size
  refine K.RW.q rfl rfl (K.QR.k (v := .bool false) (by kernel_rfl)) ?_
  refine K.RW.nil ?_
  refine K.thn_normal ?_
  refine K.KW.seq ?_
  -- region 1 super.go:32
  refine K.KW.region ?_
  refine K.RW.q rfl rfl (K.QR.k (v := .pointer (some ⟨r_2, 0, none⟩)) (by kernel_rfl)) ?_
  refine K.RW.q rfl rfl (K.QR.ld1 (v := .int .i64 c.th) rfl rfl (by kernel_rfl) (b_6.cell rfl)) ?_
  refine K.RW.l rfl (K.OW.call rfl [.int .i64 c.th, .int .i64 64] rfl rfl (by kernel_rfl) (from_ok c.th 64 _) ?_) 
  rintro v_12 w_10 ⟨hv_11, c_9⟩
  have c_13 := c_7.no c_9
  have z_14 := c_13.size
  have f_15 := b_6.no c_9
  rcases Bool.eq_false_or_eq_true (decide (1 ≤ (c.th : Int) ∧ (c.th : Int) ≤ (64 : Int))) with hb_16 | hb_16
  ·  -- True
    rw [hb_16] at hv_11; subst hv_11
    have hp_17 := of_decide_eq_true hb_16
    refine K.RW.q rfl rfl (K.QR.k (v := .bool true) (by kernel_rfl)) ?_
    refine K.RW.q rfl (by kernel_rfl) (K.QR.k (v := .pointer (some ⟨r_2, 1, none⟩)) (by kernel_rfl)) ?_
    refine K.RW.q rfl (by kernel_rfl) (K.QR.ld1 (v := .int .i64 c.sl) rfl rfl (by kernel_rfl) (f_15.cell rfl)) ?_
    refine K.RW.l (by kernel_rfl) (K.OW.call rfl [.int .i64 c.sl, .int .i64 65536] rfl rfl (by kernel_rfl) (from_ok c.sl 65536 _) ?_) 
    rintro v_21 w_19 ⟨hv_20, c_18⟩
    have c_22 := c_13.no c_18
    have z_23 := c_22.size
    have f_24 := f_15.no c_18
    rcases Bool.eq_false_or_eq_true (decide (1 ≤ (c.sl : Int) ∧ (c.sl : Int) ≤ (65536 : Int))) with hb_25 | hb_25
    ·  -- True
      rw [hb_25] at hv_20; subst hv_20
      have hp_26 := of_decide_eq_true hb_25
      refine K.RW.q rfl rfl (K.QR.k (v := .bool true) (by kernel_rfl)) ?_
      refine K.RW.q rfl rfl (K.QR.k (v := .bool true) (by kernel_rfl)) ?_
      refine K.RW.q rfl (by kernel_rfl) (K.QR.k (v := .pointer (some ⟨r_2, 2, none⟩)) (by kernel_rfl)) ?_
      refine K.RW.q rfl (by kernel_rfl) (K.QR.ld1 (v := .int .i64 c.lo) rfl rfl (by kernel_rfl) (f_24.cell rfl)) ?_
      refine K.RW.l (by kernel_rfl) (K.OW.call rfl [.int .i64 c.lo, .int .i64 64] rfl rfl (by kernel_rfl) (from_ok c.lo 64 _) ?_) 
      rintro v_30 w_28 ⟨hv_29, c_27⟩
      have c_31 := c_22.no c_27
      have z_32 := c_31.size
      have f_33 := f_24.no c_27
      rcases Bool.eq_false_or_eq_true (decide (1 ≤ (c.lo : Int) ∧ (c.lo : Int) ≤ (64 : Int))) with hb_34 | hb_34
      ·  -- True
        rw [hb_34] at hv_29; subst hv_29
        have hp_35 := of_decide_eq_true hb_34
        refine K.RW.q rfl rfl (K.QR.k (v := .bool true) (by kernel_rfl)) ?_
        refine K.RW.q rfl rfl (K.QR.k (v := .bool true) (by kernel_rfl)) ?_
        refine K.RW.q rfl (by kernel_rfl) (K.QR.k (v := .pointer (some ⟨r_2, 3, none⟩)) (by kernel_rfl)) ?_
        refine K.RW.q rfl (by kernel_rfl) (K.QR.ld1 (v := .int .i64 c.bu) rfl rfl (by kernel_rfl) (f_33.cell rfl)) ?_
        refine K.RW.l (by kernel_rfl) (K.OW.call rfl [.int .i64 c.bu, .int .i64 64] rfl rfl (by kernel_rfl) (from_ok c.bu 64 _) ?_) 
        rintro v_39 w_37 ⟨hv_38, c_36⟩
        have c_40 := c_31.no c_36
        have z_41 := c_40.size
        have f_42 := f_33.no c_36
        rcases Bool.eq_false_or_eq_true (decide (1 ≤ (c.bu : Int) ∧ (c.bu : Int) ≤ (64 : Int))) with hb_43 | hb_43
        ·  -- True
          rw [hb_43] at hv_38; subst hv_38
          have hp_44 := of_decide_eq_true hb_43
          refine K.RW.q rfl rfl (K.QR.k (v := .bool true) (by kernel_rfl)) ?_
          refine K.RW.q rfl rfl (K.QR.k (v := .bool true) (by kernel_rfl)) ?_
          refine K.RW.nil ?_
          refine K.thn_normal ?_
          refine K.KW.ret ?_
          refine ⟨.inr rfl, (.bool true), K.res1 rfl rfl, ?_⟩
          exact ⟨congrArg Value.bool (by first | exact (decide_eq_true (by unfold cfgOk; omega)).symm | exact (decide_eq_false (by unfold cfgOk; omega)).symm), c_40⟩
        ·  -- False
          rw [hb_43] at hv_38; subst hv_38
          have hp_45 := of_decide_eq_false hb_43
          refine K.RW.q rfl rfl (K.QR.k (v := .bool false) (by kernel_rfl)) ?_
          refine K.RW.q rfl rfl (K.QR.k (v := .bool false) (by kernel_rfl)) ?_
          refine K.RW.nil ?_
          refine K.thn_normal ?_
          refine K.KW.ret ?_
          refine ⟨.inr rfl, (.bool false), K.res1 rfl rfl, ?_⟩
          exact ⟨congrArg Value.bool (by first | exact (decide_eq_true (by unfold cfgOk; omega)).symm | exact (decide_eq_false (by unfold cfgOk; omega)).symm), c_40⟩
      ·  -- False
        rw [hb_34] at hv_29; subst hv_29
        have hp_46 := of_decide_eq_false hb_34
        refine K.RW.q rfl rfl (K.QR.k (v := .bool false) (by kernel_rfl)) ?_
        refine K.RW.q rfl rfl (K.QR.k (v := .bool false) (by kernel_rfl)) ?_
        refine K.RW.skip rfl (by kernel_rfl) ?_
        refine K.RW.skip rfl (by kernel_rfl) ?_
        refine K.RW.skip rfl (by kernel_rfl) ?_
        refine K.RW.q rfl rfl (K.QR.k (v := .bool false) (by kernel_rfl)) ?_
        refine K.RW.q rfl rfl (K.QR.k (v := .bool false) (by kernel_rfl)) ?_
        refine K.RW.nil ?_
        refine K.thn_normal ?_
        refine K.KW.ret ?_
        refine ⟨.inr rfl, (.bool false), K.res1 rfl rfl, ?_⟩
        exact ⟨congrArg Value.bool (by first | exact (decide_eq_true (by unfold cfgOk; omega)).symm | exact (decide_eq_false (by unfold cfgOk; omega)).symm), c_31⟩
    ·  -- False
      rw [hb_25] at hv_20; subst hv_20
      have hp_47 := of_decide_eq_false hb_25
      refine K.RW.q rfl rfl (K.QR.k (v := .bool false) (by kernel_rfl)) ?_
      refine K.RW.q rfl rfl (K.QR.k (v := .bool false) (by kernel_rfl)) ?_
      refine K.RW.skip rfl (by kernel_rfl) ?_
      refine K.RW.skip rfl (by kernel_rfl) ?_
      refine K.RW.skip rfl (by kernel_rfl) ?_
      refine K.RW.q rfl rfl (K.QR.k (v := .bool false) (by kernel_rfl)) ?_
      refine K.RW.q rfl rfl (K.QR.k (v := .bool false) (by kernel_rfl)) ?_
      refine K.RW.skip rfl (by kernel_rfl) ?_
      refine K.RW.skip rfl (by kernel_rfl) ?_
      refine K.RW.skip rfl (by kernel_rfl) ?_
      refine K.RW.q rfl rfl (K.QR.k (v := .bool false) (by kernel_rfl)) ?_
      refine K.RW.q rfl rfl (K.QR.k (v := .bool false) (by kernel_rfl)) ?_
      refine K.RW.nil ?_
      refine K.thn_normal ?_
      refine K.KW.ret ?_
      refine ⟨.inr rfl, (.bool false), K.res1 rfl rfl, ?_⟩
      exact ⟨congrArg Value.bool (by first | exact (decide_eq_true (by unfold cfgOk; omega)).symm | exact (decide_eq_false (by unfold cfgOk; omega)).symm), c_22⟩
  ·  -- False
    rw [hb_16] at hv_11; subst hv_11
    have hp_48 := of_decide_eq_false hb_16
    refine K.RW.q rfl rfl (K.QR.k (v := .bool false) (by kernel_rfl)) ?_
    refine K.RW.skip rfl (by kernel_rfl) ?_
    refine K.RW.skip rfl (by kernel_rfl) ?_
    refine K.RW.skip rfl (by kernel_rfl) ?_
    refine K.RW.q rfl rfl (K.QR.k (v := .bool false) (by kernel_rfl)) ?_
    refine K.RW.q rfl rfl (K.QR.k (v := .bool false) (by kernel_rfl)) ?_
    refine K.RW.skip rfl (by kernel_rfl) ?_
    refine K.RW.skip rfl (by kernel_rfl) ?_
    refine K.RW.skip rfl (by kernel_rfl) ?_
    refine K.RW.q rfl rfl (K.QR.k (v := .bool false) (by kernel_rfl)) ?_
    refine K.RW.q rfl rfl (K.QR.k (v := .bool false) (by kernel_rfl)) ?_
    refine K.RW.skip rfl (by kernel_rfl) ?_
    refine K.RW.skip rfl (by kernel_rfl) ?_
    refine K.RW.skip rfl (by kernel_rfl) ?_
    refine K.RW.q rfl rfl (K.QR.k (v := .bool false) (by kernel_rfl)) ?_
    refine K.RW.q rfl rfl (K.QR.k (v := .bool false) (by kernel_rfl)) ?_
    refine K.RW.nil ?_
    refine K.thn_normal ?_
    refine K.KW.ret ?_
    refine ⟨.inr rfl, (.bool false), K.res1 rfl rfl, ?_⟩
    exact ⟨congrArg Value.bool (by first | exact (decide_eq_true (by unfold cfgOk; omega)).symm | exact (decide_eq_false (by unfold cfgOk; omega)).symm), c_13⟩

set_option maxHeartbeats 1000000 in
set_option maxRecDepth 100000 in
theorem rright05_ok (c : Cfg) (w0 : World) :
    K.KC Try.prog 46 #[.agg #[.int .i64 c.th, .int .i64 c.sl, .int .i64 c.lo, .int .i64 c.bu]] w0 (fun v w' => v = .bool (decide (cfgOk c)) ∧ K.Chg K.No w0 w') := by
  refine K.KC.mk (n := 41) Try.func46 rfl rfl [.agg #[.int .i64 c.th, .int .i64 c.sl, .int .i64 c.lo, .int .i64 c.bu]] rfl rfl ?_
  refine K.KW.seq ?_
  -- region 0 ref.go:10
  refine K.KW.region ?_
  refine K.RW.l rfl (K.OW.new (t := 63) rfl (fun r => .pointer (some ⟨r, 0, none⟩)) [.int .i64 c.th, .int .i64 c.sl, .int .i64 c.lo, .int .i64 c.bu] (by kernel_rfl) ?_) 
  intro w_1 r_2 hr_3 e_4 hs_5 b_6
  have c_7 := e_4
  have z_8 := c_7.size
  refine K.RW.q rfl rfl (K.QR.k (v := .bool false) (by kernel_rfl)) ?_
  refine K.RW.nil ?_
  refine K.thn_normal ?_
  refine K.KW.seq ?_
  -- region 1 ref.go:11
  refine K.KW.region ?_
  refine K.RW.q rfl rfl (K.QR.k (v := .pointer (some ⟨r_2, 0, none⟩)) (by kernel_rfl)) ?_
  refine K.RW.q rfl rfl (K.QR.ld1 (v := .int .i64 c.th) rfl rfl (by kernel_rfl) (b_6.cell rfl)) ?_
  by_cases h_9 : (c.th : Int) ≥ (1 : Int)
  ·  -- yes
    refine K.RW.q rfl rfl (K.QR.nice (v := .bool (decide ((c.th : Int) ≥ (1 : Int)))) (by kernel_rfl) (congrArg Value.bool (decide_eq_true h_9))) ?_
    refine K.RW.q rfl rfl (K.QR.k (v := .bool true) (by kernel_rfl)) ?_
    refine K.RW.q rfl (by kernel_rfl) (K.QR.k (v := .pointer (some ⟨r_2, 0, none⟩)) (by kernel_rfl)) ?_
    refine K.RW.q rfl (by kernel_rfl) (K.QR.ld1 (v := .int .i64 c.th) rfl rfl (by kernel_rfl) (b_6.cell rfl)) ?_
    by_cases h_10 : (c.th : Int) ≤ (64 : Int)
    ·  -- yes
      refine K.RW.q rfl (by kernel_rfl) (K.QR.nice (v := .bool (decide ((c.th : Int) ≤ (64 : Int)))) (by kernel_rfl) (congrArg Value.bool (decide_eq_true h_10))) ?_
      refine K.RW.q rfl rfl (K.QR.k (v := .bool true) (by kernel_rfl)) ?_
      refine K.RW.q rfl rfl (K.QR.k (v := .bool true) (by kernel_rfl)) ?_
      refine K.RW.q rfl (by kernel_rfl) (K.QR.k (v := .pointer (some ⟨r_2, 1, none⟩)) (by kernel_rfl)) ?_
      refine K.RW.q rfl (by kernel_rfl) (K.QR.ld1 (v := .int .i64 c.sl) rfl rfl (by kernel_rfl) (b_6.cell rfl)) ?_
      by_cases h_11 : (c.sl : Int) ≥ (1 : Int)
      ·  -- yes
        refine K.RW.q rfl (by kernel_rfl) (K.QR.nice (v := .bool (decide ((c.sl : Int) ≥ (1 : Int)))) (by kernel_rfl) (congrArg Value.bool (decide_eq_true h_11))) ?_
        refine K.RW.q rfl rfl (K.QR.k (v := .bool true) (by kernel_rfl)) ?_
        refine K.RW.q rfl rfl (K.QR.k (v := .bool true) (by kernel_rfl)) ?_
        refine K.RW.q rfl (by kernel_rfl) (K.QR.k (v := .pointer (some ⟨r_2, 1, none⟩)) (by kernel_rfl)) ?_
        refine K.RW.q rfl (by kernel_rfl) (K.QR.ld1 (v := .int .i64 c.sl) rfl rfl (by kernel_rfl) (b_6.cell rfl)) ?_
        by_cases h_12 : (c.sl : Int) ≤ (65536 : Int)
        ·  -- yes
          refine K.RW.q rfl (by kernel_rfl) (K.QR.nice (v := .bool (decide ((c.sl : Int) ≤ (65536 : Int)))) (by kernel_rfl) (congrArg Value.bool (decide_eq_true h_12))) ?_
          refine K.RW.q rfl rfl (K.QR.k (v := .bool true) (by kernel_rfl)) ?_
          refine K.RW.q rfl rfl (K.QR.k (v := .bool true) (by kernel_rfl)) ?_
          refine K.RW.q rfl (by kernel_rfl) (K.QR.k (v := .pointer (some ⟨r_2, 2, none⟩)) (by kernel_rfl)) ?_
          refine K.RW.q rfl (by kernel_rfl) (K.QR.ld1 (v := .int .i64 c.lo) rfl rfl (by kernel_rfl) (b_6.cell rfl)) ?_
          by_cases h_13 : (c.lo : Int) ≥ (1 : Int)
          ·  -- yes
            refine K.RW.q rfl (by kernel_rfl) (K.QR.nice (v := .bool (decide ((c.lo : Int) ≥ (1 : Int)))) (by kernel_rfl) (congrArg Value.bool (decide_eq_true h_13))) ?_
            refine K.RW.q rfl rfl (K.QR.k (v := .bool true) (by kernel_rfl)) ?_
            refine K.RW.q rfl rfl (K.QR.k (v := .bool true) (by kernel_rfl)) ?_
            refine K.RW.q rfl (by kernel_rfl) (K.QR.k (v := .pointer (some ⟨r_2, 2, none⟩)) (by kernel_rfl)) ?_
            refine K.RW.q rfl (by kernel_rfl) (K.QR.ld1 (v := .int .i64 c.lo) rfl rfl (by kernel_rfl) (b_6.cell rfl)) ?_
            by_cases h_14 : (c.lo : Int) ≤ (64 : Int)
            ·  -- yes
              refine K.RW.q rfl (by kernel_rfl) (K.QR.nice (v := .bool (decide ((c.lo : Int) ≤ (64 : Int)))) (by kernel_rfl) (congrArg Value.bool (decide_eq_true h_14))) ?_
              refine K.RW.q rfl rfl (K.QR.k (v := .bool true) (by kernel_rfl)) ?_
              refine K.RW.q rfl rfl (K.QR.k (v := .bool true) (by kernel_rfl)) ?_
              refine K.RW.q rfl (by kernel_rfl) (K.QR.k (v := .pointer (some ⟨r_2, 3, none⟩)) (by kernel_rfl)) ?_
              refine K.RW.q rfl (by kernel_rfl) (K.QR.ld1 (v := .int .i64 c.bu) rfl rfl (by kernel_rfl) (b_6.cell rfl)) ?_
              by_cases h_15 : (c.bu : Int) ≥ (1 : Int)
              ·  -- yes
                refine K.RW.q rfl (by kernel_rfl) (K.QR.nice (v := .bool (decide ((c.bu : Int) ≥ (1 : Int)))) (by kernel_rfl) (congrArg Value.bool (decide_eq_true h_15))) ?_
                refine K.RW.q rfl rfl (K.QR.k (v := .bool true) (by kernel_rfl)) ?_
                refine K.RW.q rfl rfl (K.QR.k (v := .bool true) (by kernel_rfl)) ?_
                refine K.RW.q rfl (by kernel_rfl) (K.QR.k (v := .pointer (some ⟨r_2, 3, none⟩)) (by kernel_rfl)) ?_
                refine K.RW.q rfl (by kernel_rfl) (K.QR.ld1 (v := .int .i64 c.bu) rfl rfl (by kernel_rfl) (b_6.cell rfl)) ?_
                by_cases h_16 : (c.bu : Int) ≤ (64 : Int)
                ·  -- yes
                  refine K.RW.q rfl (by kernel_rfl) (K.QR.nice (v := .bool (decide ((c.bu : Int) ≤ (64 : Int)))) (by kernel_rfl) (congrArg Value.bool (decide_eq_true h_16))) ?_
                  refine K.RW.q rfl rfl (K.QR.k (v := .bool true) (by kernel_rfl)) ?_
                  refine K.RW.q rfl rfl (K.QR.k (v := .bool true) (by kernel_rfl)) ?_
                  refine K.RW.nil ?_
                  refine K.thn_normal ?_
                  refine K.KW.ret ?_
                  refine ⟨.inr rfl, (.bool true), K.res1 rfl rfl, ?_⟩
                  exact ⟨congrArg Value.bool (by first | exact (decide_eq_true (by unfold cfgOk; omega)).symm | exact (decide_eq_false (by unfold cfgOk; omega)).symm), c_7⟩
                ·  -- no
                  refine K.RW.q rfl (by kernel_rfl) (K.QR.nice (v := .bool (decide ((c.bu : Int) ≤ (64 : Int)))) (by kernel_rfl) (congrArg Value.bool (decide_eq_false h_16))) ?_
                  refine K.RW.q rfl rfl (K.QR.k (v := .bool false) (by kernel_rfl)) ?_
                  refine K.RW.q rfl rfl (K.QR.k (v := .bool false) (by kernel_rfl)) ?_
                  refine K.RW.nil ?_
                  refine K.thn_normal ?_
                  refine K.KW.ret ?_
                  refine ⟨.inr rfl, (.bool false), K.res1 rfl rfl, ?_⟩
                  exact ⟨congrArg Value.bool (by first | exact (decide_eq_true (by unfold cfgOk; omega)).symm | exact (decide_eq_false (by unfold cfgOk; omega)).symm), c_7⟩
              ·  -- no
                refine K.RW.q rfl (by kernel_rfl) (K.QR.nice (v := .bool (decide ((c.bu : Int) ≥ (1 : Int)))) (by kernel_rfl) (congrArg Value.bool (decide_eq_false h_15))) ?_
                refine K.RW.q rfl rfl (K.QR.k (v := .bool false) (by kernel_rfl)) ?_
                refine K.RW.q rfl rfl (K.QR.k (v := .bool false) (by kernel_rfl)) ?_
                refine K.RW.skip rfl (by kernel_rfl) ?_
                refine K.RW.skip rfl (by kernel_rfl) ?_
                refine K.RW.skip rfl (by kernel_rfl) ?_
                refine K.RW.q rfl rfl (K.QR.k (v := .bool false) (by kernel_rfl)) ?_
                refine K.RW.q rfl rfl (K.QR.k (v := .bool false) (by kernel_rfl)) ?_
                refine K.RW.nil ?_
                refine K.thn_normal ?_
                refine K.KW.ret ?_
                refine ⟨.inr rfl, (.bool false), K.res1 rfl rfl, ?_⟩
                exact ⟨congrArg Value.bool (by first | exact (decide_eq_true (by unfold cfgOk; omega)).symm | exact (decide_eq_false (by unfold cfgOk; omega)).symm), c_7⟩
            ·  -- no
              refine K.RW.q rfl (by kernel_rfl) (K.QR.nice (v := .bool (decide ((c.lo : Int) ≤ (64 : Int)))) (by kernel_rfl) (congrArg Value.bool (decide_eq_false h_14))) ?_
              refine K.RW.q rfl rfl (K.QR.k (v := .bool false) (by kernel_rfl)) ?_
              refine K.RW.q rfl rfl (K.QR.k (v := .bool false) (by kernel_rfl)) ?_
              refine K.RW.skip rfl (by kernel_rfl) ?_
              refine K.RW.skip rfl (by kernel_rfl) ?_
              refine K.RW.skip rfl (by kernel_rfl) ?_
              refine K.RW.q rfl rfl (K.QR.k (v := .bool false) (by kernel_rfl)) ?_
              refine K.RW.q rfl rfl (K.QR.k (v := .bool false) (by kernel_rfl)) ?_
              refine K.RW.skip rfl (by kernel_rfl) ?_
              refine K.RW.skip rfl (by kernel_rfl) ?_
              refine K.RW.skip rfl (by kernel_rfl) ?_
              refine K.RW.q rfl rfl (K.QR.k (v := .bool false) (by kernel_rfl)) ?_
              refine K.RW.q rfl rfl (K.QR.k (v := .bool false) (by kernel_rfl)) ?_
              refine K.RW.nil ?_
              refine K.thn_normal ?_
              refine K.KW.ret ?_
              refine ⟨.inr rfl, (.bool false), K.res1 rfl rfl, ?_⟩
              exact ⟨congrArg Value.bool (by first | exact (decide_eq_true (by unfold cfgOk; omega)).symm | exact (decide_eq_false (by unfold cfgOk; omega)).symm), c_7⟩
          ·  -- no
            refine K.RW.q rfl (by kernel_rfl) (K.QR.nice (v := .bool (decide ((c.lo : Int) ≥ (1 : Int)))) (by kernel_rfl) (congrArg Value.bool (decide_eq_false h_13))) ?_
            refine K.RW.q rfl rfl (K.QR.k (v := .bool false) (by kernel_rfl)) ?_
            refine K.RW.q rfl rfl (K.QR.k (v := .bool false) (by kernel_rfl)) ?_
            refine K.RW.skip rfl (by kernel_rfl) ?_
            refine K.RW.skip rfl (by kernel_rfl) ?_
            refine K.RW.skip rfl (by kernel_rfl) ?_
            refine K.RW.q rfl rfl (K.QR.k (v := .bool false) (by kernel_rfl)) ?_
            refine K.RW.q rfl rfl (K.QR.k (v := .bool false) (by kernel_rfl)) ?_
            refine K.RW.skip rfl (by kernel_rfl) ?_
            refine K.RW.skip rfl (by kernel_rfl) ?_
            refine K.RW.skip rfl (by kernel_rfl) ?_
            refine K.RW.q rfl rfl (K.QR.k (v := .bool false) (by kernel_rfl)) ?_
            refine K.RW.q rfl rfl (K.QR.k (v := .bool false) (by kernel_rfl)) ?_
            refine K.RW.skip rfl (by kernel_rfl) ?_
            refine K.RW.skip rfl (by kernel_rfl) ?_
            refine K.RW.skip rfl (by kernel_rfl) ?_
            refine K.RW.q rfl rfl (K.QR.k (v := .bool false) (by kernel_rfl)) ?_
            refine K.RW.q rfl rfl (K.QR.k (v := .bool false) (by kernel_rfl)) ?_
            refine K.RW.nil ?_
            refine K.thn_normal ?_
            refine K.KW.ret ?_
            refine ⟨.inr rfl, (.bool false), K.res1 rfl rfl, ?_⟩
            exact ⟨congrArg Value.bool (by first | exact (decide_eq_true (by unfold cfgOk; omega)).symm | exact (decide_eq_false (by unfold cfgOk; omega)).symm), c_7⟩
        ·  -- no
          refine K.RW.q rfl (by kernel_rfl) (K.QR.nice (v := .bool (decide ((c.sl : Int) ≤ (65536 : Int)))) (by kernel_rfl) (congrArg Value.bool (decide_eq_false h_12))) ?_
          refine K.RW.q rfl rfl (K.QR.k (v := .bool false) (by kernel_rfl)) ?_
          refine K.RW.q rfl rfl (K.QR.k (v := .bool false) (by kernel_rfl)) ?_
          refine K.RW.skip rfl (by kernel_rfl) ?_
          refine K.RW.skip rfl (by kernel_rfl) ?_
          refine K.RW.skip rfl (by kernel_rfl) ?_
          refine K.RW.q rfl rfl (K.QR.k (v := .bool false) (by kernel_rfl)) ?_
          refine K.RW.q rfl rfl (K.QR.k (v := .bool false) (by kernel_rfl)) ?_
          refine K.RW.skip rfl (by kernel_rfl) ?_
          refine K.RW.skip rfl (by kernel_rfl) ?_
          refine K.RW.skip rfl (by kernel_rfl) ?_
          refine K.RW.q rfl rfl (K.QR.k (v := .bool false) (by kernel_rfl)) ?_
          refine K.RW.q rfl rfl (K.QR.k (v := .bool false) (by kernel_rfl)) ?_
          refine K.RW.skip rfl (by kernel_rfl) ?_
          refine K.RW.skip rfl (by kernel_rfl) ?_
          refine K.RW.skip rfl (by kernel_rfl) ?_
          refine K.RW.q rfl rfl (K.QR.k (v := .bool false) (by kernel_rfl)) ?_
          refine K.RW.q rfl rfl (K.QR.k (v := .bool false) (by kernel_rfl)) ?_
          refine K.RW.skip rfl (by kernel_rfl) ?_
          refine K.RW.skip rfl (by kernel_rfl) ?_
          refine K.RW.skip rfl (by kernel_rfl) ?_
          refine K.RW.q rfl rfl (K.QR.k (v := .bool false) (by kernel_rfl)) ?_
          refine K.RW.q rfl rfl (K.QR.k (v := .bool false) (by kernel_rfl)) ?_
          refine K.RW.nil ?_
          refine K.thn_normal ?_
          refine K.KW.ret ?_
          refine ⟨.inr rfl, (.bool false), K.res1 rfl rfl, ?_⟩
          exact ⟨congrArg Value.bool (by first | exact (decide_eq_true (by unfold cfgOk; omega)).symm | exact (decide_eq_false (by unfold cfgOk; omega)).symm), c_7⟩
      ·  -- no
        refine K.RW.q rfl (by kernel_rfl) (K.QR.nice (v := .bool (decide ((c.sl : Int) ≥ (1 : Int)))) (by kernel_rfl) (congrArg Value.bool (decide_eq_false h_11))) ?_
        refine K.RW.q rfl rfl (K.QR.k (v := .bool false) (by kernel_rfl)) ?_
        refine K.RW.q rfl rfl (K.QR.k (v := .bool false) (by kernel_rfl)) ?_
        refine K.RW.skip rfl (by kernel_rfl) ?_
        refine K.RW.skip rfl (by kernel_rfl) ?_
        refine K.RW.skip rfl (by kernel_rfl) ?_
        refine K.RW.q rfl rfl (K.QR.k (v := .bool false) (by kernel_rfl)) ?_
        refine K.RW.q rfl rfl (K.QR.k (v := .bool false) (by kernel_rfl)) ?_
        refine K.RW.skip rfl (by kernel_rfl) ?_
        refine K.RW.skip rfl (by kernel_rfl) ?_
        refine K.RW.skip rfl (by kernel_rfl) ?_
        refine K.RW.q rfl rfl (K.QR.k (v := .bool false) (by kernel_rfl)) ?_
        refine K.RW.q rfl rfl (K.QR.k (v := .bool false) (by kernel_rfl)) ?_
        refine K.RW.skip rfl (by kernel_rfl) ?_
        refine K.RW.skip rfl (by kernel_rfl) ?_
        refine K.RW.skip rfl (by kernel_rfl) ?_
        refine K.RW.q rfl rfl (K.QR.k (v := .bool false) (by kernel_rfl)) ?_
        refine K.RW.q rfl rfl (K.QR.k (v := .bool false) (by kernel_rfl)) ?_
        refine K.RW.skip rfl (by kernel_rfl) ?_
        refine K.RW.skip rfl (by kernel_rfl) ?_
        refine K.RW.skip rfl (by kernel_rfl) ?_
        refine K.RW.q rfl rfl (K.QR.k (v := .bool false) (by kernel_rfl)) ?_
        refine K.RW.q rfl rfl (K.QR.k (v := .bool false) (by kernel_rfl)) ?_
        refine K.RW.skip rfl (by kernel_rfl) ?_
        refine K.RW.skip rfl (by kernel_rfl) ?_
        refine K.RW.skip rfl (by kernel_rfl) ?_
        refine K.RW.q rfl rfl (K.QR.k (v := .bool false) (by kernel_rfl)) ?_
        refine K.RW.q rfl rfl (K.QR.k (v := .bool false) (by kernel_rfl)) ?_
        refine K.RW.nil ?_
        refine K.thn_normal ?_
        refine K.KW.ret ?_
        refine ⟨.inr rfl, (.bool false), K.res1 rfl rfl, ?_⟩
        exact ⟨congrArg Value.bool (by first | exact (decide_eq_true (by unfold cfgOk; omega)).symm | exact (decide_eq_false (by unfold cfgOk; omega)).symm), c_7⟩
    ·  -- no
      refine K.RW.q rfl (by kernel_rfl) (K.QR.nice (v := .bool (decide ((c.th : Int) ≤ (64 : Int)))) (by kernel_rfl) (congrArg Value.bool (decide_eq_false h_10))) ?_
      refine K.RW.q rfl rfl (K.QR.k (v := .bool false) (by kernel_rfl)) ?_
      refine K.RW.q rfl rfl (K.QR.k (v := .bool false) (by kernel_rfl)) ?_
      refine K.RW.skip rfl (by kernel_rfl) ?_
      refine K.RW.skip rfl (by kernel_rfl) ?_
      refine K.RW.skip rfl (by kernel_rfl) ?_
      refine K.RW.q rfl rfl (K.QR.k (v := .bool false) (by kernel_rfl)) ?_
      refine K.RW.q rfl rfl (K.QR.k (v := .bool false) (by kernel_rfl)) ?_
      refine K.RW.skip rfl (by kernel_rfl) ?_
      refine K.RW.skip rfl (by kernel_rfl) ?_
      refine K.RW.skip rfl (by kernel_rfl) ?_
      refine K.RW.q rfl rfl (K.QR.k (v := .bool false) (by kernel_rfl)) ?_
      refine K.RW.q rfl rfl (K.QR.k (v := .bool false) (by kernel_rfl)) ?_
      refine K.RW.skip rfl (by kernel_rfl) ?_
      refine K.RW.skip rfl (by kernel_rfl) ?_
      refine K.RW.skip rfl (by kernel_rfl) ?_
      refine K.RW.q rfl rfl (K.QR.k (v := .bool false) (by kernel_rfl)) ?_
      refine K.RW.q rfl rfl (K.QR.k (v := .bool false) (by kernel_rfl)) ?_
      refine K.RW.skip rfl (by kernel_rfl) ?_
      refine K.RW.skip rfl (by kernel_rfl) ?_
      refine K.RW.skip rfl (by kernel_rfl) ?_
      refine K.RW.q rfl rfl (K.QR.k (v := .bool false) (by kernel_rfl)) ?_
      refine K.RW.q rfl rfl (K.QR.k (v := .bool false) (by kernel_rfl)) ?_
      refine K.RW.skip rfl (by kernel_rfl) ?_
      refine K.RW.skip rfl (by kernel_rfl) ?_
      refine K.RW.skip rfl (by kernel_rfl) ?_
      refine K.RW.q rfl rfl (K.QR.k (v := .bool false) (by kernel_rfl)) ?_
      refine K.RW.q rfl rfl (K.QR.k (v := .bool false) (by kernel_rfl)) ?_
      refine K.RW.skip rfl (by kernel_rfl) ?_
      refine K.RW.skip rfl (by kernel_rfl) ?_
      refine K.RW.skip rfl (by kernel_rfl) ?_
      refine K.RW.q rfl rfl (K.QR.k (v := .bool false) (by kernel_rfl)) ?_
      refine K.RW.q rfl rfl (K.QR.k (v := .bool false) (by kernel_rfl)) ?_
      refine K.RW.nil ?_
      refine K.thn_normal ?_
      refine K.KW.ret ?_
      refine ⟨.inr rfl, (.bool false), K.res1 rfl rfl, ?_⟩
      exact ⟨congrArg Value.bool (by first | exact (decide_eq_true (by unfold cfgOk; omega)).symm | exact (decide_eq_false (by unfold cfgOk; omega)).symm), c_7⟩
  ·  -- no
    refine K.RW.q rfl rfl (K.QR.nice (v := .bool (decide ((c.th : Int) ≥ (1 : Int)))) (by kernel_rfl) (congrArg Value.bool (decide_eq_false h_9))) ?_
    refine K.RW.q rfl rfl (K.QR.k (v := .bool false) (by kernel_rfl)) ?_
    refine K.RW.skip rfl (by kernel_rfl) ?_
    refine K.RW.skip rfl (by kernel_rfl) ?_
    refine K.RW.skip rfl (by kernel_rfl) ?_
    refine K.RW.q rfl rfl (K.QR.k (v := .bool false) (by kernel_rfl)) ?_
    refine K.RW.q rfl rfl (K.QR.k (v := .bool false) (by kernel_rfl)) ?_
    refine K.RW.skip rfl (by kernel_rfl) ?_
    refine K.RW.skip rfl (by kernel_rfl) ?_
    refine K.RW.skip rfl (by kernel_rfl) ?_
    refine K.RW.q rfl rfl (K.QR.k (v := .bool false) (by kernel_rfl)) ?_
    refine K.RW.q rfl rfl (K.QR.k (v := .bool false) (by kernel_rfl)) ?_
    refine K.RW.skip rfl (by kernel_rfl) ?_
    refine K.RW.skip rfl (by kernel_rfl) ?_
    refine K.RW.skip rfl (by kernel_rfl) ?_
    refine K.RW.q rfl rfl (K.QR.k (v := .bool false) (by kernel_rfl)) ?_
    refine K.RW.q rfl rfl (K.QR.k (v := .bool false) (by kernel_rfl)) ?_
    refine K.RW.skip rfl (by kernel_rfl) ?_
    refine K.RW.skip rfl (by kernel_rfl) ?_
    refine K.RW.skip rfl (by kernel_rfl) ?_
    refine K.RW.q rfl rfl (K.QR.k (v := .bool false) (by kernel_rfl)) ?_
    refine K.RW.q rfl rfl (K.QR.k (v := .bool false) (by kernel_rfl)) ?_
    refine K.RW.skip rfl (by kernel_rfl) ?_
    refine K.RW.skip rfl (by kernel_rfl) ?_
    refine K.RW.skip rfl (by kernel_rfl) ?_
    refine K.RW.q rfl rfl (K.QR.k (v := .bool false) (by kernel_rfl)) ?_
    refine K.RW.q rfl rfl (K.QR.k (v := .bool false) (by kernel_rfl)) ?_
    refine K.RW.skip rfl (by kernel_rfl) ?_
    refine K.RW.skip rfl (by kernel_rfl) ?_
    refine K.RW.skip rfl (by kernel_rfl) ?_
    refine K.RW.q rfl rfl (K.QR.k (v := .bool false) (by kernel_rfl)) ?_
    refine K.RW.q rfl rfl (K.QR.k (v := .bool false) (by kernel_rfl)) ?_
    refine K.RW.skip rfl (by kernel_rfl) ?_
    refine K.RW.skip rfl (by kernel_rfl) ?_
    refine K.RW.skip rfl (by kernel_rfl) ?_
    refine K.RW.q rfl rfl (K.QR.k (v := .bool false) (by kernel_rfl)) ?_
    refine K.RW.q rfl rfl (K.QR.k (v := .bool false) (by kernel_rfl)) ?_
    refine K.RW.nil ?_
    refine K.thn_normal ?_
    refine K.KW.ret ?_
    refine ⟨.inr rfl, (.bool false), K.res1 rfl rfl, ?_⟩
    exact ⟨congrArg Value.bool (by first | exact (decide_eq_true (by unfold cfgOk; omega)).symm | exact (decide_eq_false (by unfold cfgOk; omega)).symm), c_7⟩

set_option maxHeartbeats 1000000 in
set_option maxRecDepth 100000 in
theorem linesOf_ok (n : Int) (w0 : World) (h : 1 ≤ n ∧ n ≤ 64) :
    K.KC Try.prog 59 #[.int .i64 n] w0 (fun v w' => v = .int .i64 ((n + 7) / 8) ∧ K.Chg K.No w0 w') := by
  refine K.KC.mk (n := 7) Try.func59 rfl rfl [.int .i64 n] rfl rfl ?_
  refine K.KW.seq ?_
  -- region 0 layout.go:46
  refine K.KW.region ?_
  refine K.RW.q rfl rfl (K.QR.k (v := .int .i64 0) (by kernel_rfl)) ?_
  refine K.RW.nil ?_
  refine K.thn_normal ?_
  refine K.KW.seq ?_
  -- region 1 layout.go:46
  refine K.KW.region ?_
  refine K.RW.q rfl rfl (K.QR.k (v := .int .i64 n) (by kernel_rfl)) ?_
  refine K.RW.q rfl rfl (K.QR.n64 ((n : Int) + (8 : Int)) ((n : Int) + (8 : Int)) (by kernel_rfl) (by omega)) ?_
  refine K.RW.q rfl rfl (K.QR.n64 (((n : Int) + (8 : Int) : Int) - (1 : Int)) (((n : Int) + (8 : Int) : Int) - (1 : Int)) (by kernel_rfl) (by omega)) ?_
  refine K.RW.q rfl rfl (K.QR.quoi64 (((n : Int) + (8 : Int) : Int) - (1 : Int) : Int) 8 ((((n : Int) + (8 : Int) : Int) - (1 : Int) : Int) / 8) (by kernel_rfl) (by omega) (by omega)) ?_
  refine K.RW.q rfl rfl (K.QR.k (v := .int .i64 ((((n : Int) + (8 : Int) : Int) - (1 : Int) : Int) / 8)) (by kernel_rfl)) ?_
  refine K.RW.nil ?_
  refine K.thn_normal ?_
  refine K.KW.ret ?_
  refine ⟨.inr rfl, (.int .i64 ((((n : Int) + (8 : Int) : Int) - (1 : Int) : Int) / 8)), K.res1 rfl rfl, ?_⟩
  exact ⟨congrArg (Value.int .i64) (by omega), (K.Chg.refl _)⟩

set_option maxHeartbeats 1000000 in
set_option maxRecDepth 100000 in
theorem of1_ok (b : Nat) (x n : Int) (w0 : World) (h : 0 ≤ x ∧ x ≤ 100000) (h2 : 0 ≤ n ∧ n ≤ 100000) (hb : K.Blk w0 b 3 [.int .i64 x]) :
    K.KC Try.prog 58 #[.int .i64 n, .pointer (some ⟨b, 0, none⟩)] w0 (fun v w' => v = .int .i64 x ∧ K.Chg (K.Is b) w0 w' ∧ K.Blk w' b 3 [.int .i64 (x + n)]) := by
  refine K.KC.mk (n := 10) Try.func58 rfl rfl [.int .i64 n, .pointer (some ⟨b, 0, none⟩)] rfl rfl ?_
  have c_0 : K.Chg (K.Is b) w0 w0 := (K.Chg.refl w0).mono fun _ _ h => h.elim
  refine K.KW.seq ?_
  -- region 0 layout.go:54
  refine K.KW.region ?_
  refine K.RW.q rfl rfl (K.QR.k (v := .int .i64 0) (by kernel_rfl)) ?_
  refine K.RW.nil ?_
  refine K.thn_normal ?_
  refine K.KW.seq ?_
  -- region 1 layout.go:55
  refine K.KW.region ?_
  refine K.RW.q rfl rfl (K.QR.ld1 (v := .int .i64 x) rfl rfl (by kernel_rfl) (hb.cell rfl)) ?_
  refine K.RW.q rfl rfl (K.QR.k (v := .int .i64 n) (by kernel_rfl)) ?_
  refine K.RW.q rfl rfl (K.QR.n64 ((x : Int) + (n : Int)) ((x : Int) + (n : Int)) (by kernel_rfl) (by omega)) ?_
  refine K.RW.l rfl (K.OW.st [.int .i64 ((x : Int) + (n : Int))] [.int .i64 ((x : Int) + (n : Int))] rfl rfl rfl (by kernel_rfl) hb rfl (K.one_cells (by rfl)) rfl rfl ?_) 
  intro w_1 e_2 hs_3 b_4
  have c_5 := c_0.trans e_2 (fun i hi hy => hy)
  have z_6 := c_5.size
  refine K.RW.nil ?_
  refine K.thn_normal ?_
  refine K.KW.seq ?_
  -- region 2 layout.go:56
  refine K.KW.region ?_
  refine K.RW.q rfl rfl (K.QR.ld1 (v := .int .i64 ((x : Int) + (n : Int))) rfl rfl (by kernel_rfl) (b_4.cell rfl)) ?_
  refine K.RW.q rfl rfl (K.QR.k (v := .int .i64 n) (by kernel_rfl)) ?_
  refine K.RW.q rfl rfl (K.QR.n64 (((x : Int) + (n : Int) : Int) - (n : Int)) (((x : Int) + (n : Int) : Int) - (n : Int)) (by kernel_rfl) (by omega)) ?_
  refine K.RW.q rfl rfl (K.QR.k (v := .int .i64 (((x : Int) + (n : Int) : Int) - (n : Int))) (by kernel_rfl)) ?_
  refine K.RW.nil ?_
  refine K.thn_normal ?_
  refine K.KW.ret ?_
  refine ⟨.inr rfl, (.int .i64 (((x : Int) + (n : Int) : Int) - (n : Int))), K.res1 rfl rfl, ?_⟩
  exact ⟨congrArg (Value.int .i64) (by omega), c_5, b_4⟩

set_option maxHeartbeats 1000000 in
set_option maxRecDepth 100000 in
theorem of_ok (c : Cfg) (w0 : World) :
    K.KC Try.prog 35 #[.agg #[.int .i64 c.th, .int .i64 c.sl, .int .i64 c.lo, .int .i64 c.bu]] w0 (fun v w' => (∃ b, v = .tuple #[.pointer (some ⟨b, 0, none⟩), .int .i64 0] ∧ cfgOk c ∧ K.Chg K.No w0 w' ∧ w0.heap.size ≤ b ∧ LayB w' b c) ∨ (v = .tuple #[.pointer none, .int .i64 1] ∧ ¬ cfgOk c ∧ K.Chg K.No w0 w')) := by
  refine K.KC.mk (n := 53) Try.func35 rfl rfl [.agg #[.int .i64 c.th, .int .i64 c.sl, .int .i64 c.lo, .int .i64 c.bu]] rfl rfl ?_
  refine K.KW.seq ?_
  -- region 0 layout.go:49
  refine K.KW.region ?_
  refine K.RW.l rfl (K.OW.new (t := 63) rfl (fun r => .pointer (some ⟨r, 0, none⟩)) [.int .i64 c.th, .int .i64 c.sl, .int .i64 c.lo, .int .i64 c.bu] (by kernel_rfl) ?_) 
  intro w_1 r_2 hr_3 e_4 hs_5 b_6
  have c_7 := e_4
  have z_8 := c_7.size
  refine K.RW.q rfl rfl (K.QR.k (v := .pointer none) (by kernel_rfl)) ?_
  refine K.RW.q rfl rfl (K.QR.k (v := .int .i64 0) (by kernel_rfl)) ?_
  refine K.RW.nil ?_
  refine K.thn_normal ?_
  refine K.KW.seq ?_
  refine K.KW.seq ?_
  -- region 1 layout.go:50
  refine K.KW.region ?_
  refine K.RW.q rfl rfl (K.QR.ldN [.int .i64 c.th, .int .i64 c.sl, .int .i64 c.lo, .int .i64 c.bu] rfl rfl (by kernel_rfl) (by kernel_rfl) (K.cells (K.cl (b_6.cell rfl) (K.cl (b_6.cell rfl) (K.cl (b_6.cell rfl) (K.cl (b_6.cell rfl) K.cl0)))))) ?_
  refine K.RW.l rfl (K.OW.call rfl [.agg #[.int .i64 c.th, .int .i64 c.sl, .int .i64 c.lo, .int .i64 c.bu]] rfl rfl (by kernel_rfl) (sright_ok c _) ?_) 
  rintro v_12 w_10 ⟨hv_11, c_9⟩
  have c_13 := c_7.no c_9
  have z_14 := c_13.size
  have f_15 := b_6.no c_9
  rcases Bool.eq_false_or_eq_true (decide (cfgOk c)) with hb_16 | hb_16
  ·  -- True
    rw [hb_16] at hv_11; subst hv_11
    have hp_17 := of_decide_eq_true hb_16
    refine K.RW.q rfl rfl (K.QR.k (v := .bool false) (by kernel_rfl)) ?_
    refine K.RW.nil ?_
    refine K.thn_normal ?_
    refine K.KW.ifF rfl ?_
    refine K.KW.skip ?_
    refine K.thn_normal ?_
    refine K.KW.seq ?_
    -- region 3 layout.go:53
    refine K.KW.region ?_
    refine K.RW.l rfl (K.OW.new (t := 3) rfl (fun r => .pointer (some ⟨r, 0, none⟩)) [.int .i64 0] (by kernel_rfl) ?_) 
    intro w_18 r_19 hr_20 e_21 hs_22 b_23
    have c_24 := c_13.no e_21
    have z_25 := c_24.size
    have f_26 := f_15.no e_21
    refine K.RW.l rfl (K.OW.st [.int .i64 5] [.int .i64 5] rfl rfl rfl (by kernel_rfl) b_23 rfl (K.one_cells (by rfl)) rfl rfl ?_) 
    intro w_27 e_28 hs_29 b_30
    have c_31 := c_24.own e_28 (by omega)
    have z_32 := c_31.size
    have f_33 := f_26.chg e_28 (f_26.ne b_23 (by decide))
    refine K.RW.nil ?_
    refine K.thn_normal ?_
    refine K.KW.seq ?_
    -- region 4 layout.go:54
    refine K.KW.region ?_
    refine K.RW.q rfl rfl (K.QR.fn [] [.pointer (some ⟨r_19, 0, none⟩)] rfl rfl rfl) ?_
    refine K.RW.q rfl rfl (K.QR.k (v := .func (.func 58) [].toArray [.pointer (some ⟨r_19, 0, none⟩)].toArray) (by kernel_rfl)) ?_
    refine K.RW.nil ?_
    refine K.thn_normal ?_
    refine K.KW.seq ?_
    -- region 5 layout.go:58
    have hbd : cfgOk c := by assumption
    have hb2 := lsz_bd hbd
    have hb3 := tl_bd hbd
    unfold cfgOk at hbd
    unfold lsz at hb2
    unfold tl lsz at hb3
    refine K.KW.region ?_
    refine K.RW.q rfl rfl (K.QR.k (v := .func (.func 58) [].toArray [.pointer (some ⟨r_19, 0, none⟩)].toArray) (by kernel_rfl)) ?_
    refine K.RW.q rfl rfl (K.QR.k (v := .pointer (some ⟨r_2, 3, none⟩)) (by kernel_rfl)) ?_
    refine K.RW.q rfl rfl (K.QR.ld1 (v := .int .i64 c.bu) rfl rfl (by kernel_rfl) (f_33.cell rfl)) ?_
    refine K.RW.l rfl (K.OW.call rfl [.int .i64 c.bu] rfl rfl (by kernel_rfl) (linesOf_ok c.bu _ (by first | omega | (unfold cfgOk at *; omega))) ?_) 
    rintro _ w_35 ⟨rfl, c_34⟩
    have c_36 := c_31.no c_34
    have z_37 := c_36.size
    have f_38 := f_33.no c_34
    have f_39 := b_30.no c_34
    refine K.RW.l rfl (K.OW.callv rfl [.int .i64 (((c.bu : Int) + 7) / 8), .pointer (some ⟨r_19, 0, none⟩)] rfl rfl rfl (by kernel_rfl) (of1_ok _ 5 (((c.bu : Int) + 7) / 8) _ (by first | omega | (have := lay_bd (by assumption); omega)) (by first | omega | (have := lay_bd (by assumption); omega)) f_39) ?_) 
    rintro _ w_42 ⟨rfl, c_40, b_41⟩
    have c_43 := c_36.own c_40 (by omega)
    have z_44 := c_43.size
    have f_45 := f_38.chg c_40 (f_38.ne f_39 (by decide))
    refine K.RW.nil ?_
    refine K.thn_normal ?_
    refine K.KW.seq ?_
    -- region 6 layout.go:59
    refine K.KW.drawn (fun w => K.Chg K.No w0 w ∧ (w.cell? ⟨r_2, 0, none⟩ = some (.int .i64 c.th)) ∧ (w.cell? ⟨r_2, 1, none⟩ = some (.int .i64 c.sl)) ∧ (w.cell? ⟨r_2, 2, none⟩ = some (.int .i64 c.lo)) ∧ (w.cell? ⟨r_2, 3, none⟩ = some (.int .i64 c.bu))) (by kernel_rfl) ?_
    intro w_46 e_47 hs_48
    have c_50 := c_43.no e_47
    have z_51 := c_50.size
    have f_52 := f_45.no e_47
    have f_53 := b_41.no e_47
    have hS_49 : (fun w => K.Chg K.No w0 w ∧ (w.cell? ⟨r_2, 0, none⟩ = some (.int .i64 c.th)) ∧ (w.cell? ⟨r_2, 1, none⟩ = some (.int .i64 c.sl)) ∧ (w.cell? ⟨r_2, 2, none⟩ = some (.int .i64 c.lo)) ∧ (w.cell? ⟨r_2, 3, none⟩ = some (.int .i64 c.bu))) w_46 := ⟨c_50, ((f_52).cell rfl), ((f_52).cell rfl), ((f_52).cell rfl), ((f_52).cell rfl)⟩
    refine K.DW.q 0 (by kernel_rfl) rfl rfl (by kernel_rfl) rfl (fun w hS => K.QR.ldN [.int .i64 c.th, .int .i64 c.sl, .int .i64 c.lo, .int .i64 c.bu] rfl rfl (by kernel_rfl) (by kernel_rfl) (K.cells (K.cl (hS.2.1) (K.cl (hS.2.2.1) (K.cl (hS.2.2.2.1) (K.cl (hS.2.2.2.2) K.cl0)))))) hS_49 ?_
    refine K.DW.q 1 (by kernel_rfl) rfl rfl (by kernel_rfl) rfl (fun w hS => K.QR.k (v := .pointer (some ⟨r_2, 2, none⟩)) (by kernel_rfl)) hS_49 ?_
    refine K.DW.q 2 (by kernel_rfl) rfl rfl (by kernel_rfl) rfl (fun w hS => K.QR.ld1 (v := .int .i64 c.lo) rfl rfl (by kernel_rfl) (hS.2.2.2.1)) hS_49 ?_
    refine K.DW.l 3 rfl (by kernel_rfl) rfl (K.OW.call rfl [.int .i64 c.lo] rfl rfl (by kernel_rfl) (linesOf_ok c.lo _ (by first | omega | (unfold cfgOk at *; omega))) ?_)
    rintro _ w_55 ⟨rfl, c_54⟩
    have c_56 := c_50.no c_54
    have z_57 := c_56.size
    have f_58 := f_52.no c_54
    have f_59 := f_53.no c_54
    have hS_60 : (fun w => K.Chg K.No w0 w ∧ (w.cell? ⟨r_2, 0, none⟩ = some (.int .i64 c.th)) ∧ (w.cell? ⟨r_2, 1, none⟩ = some (.int .i64 c.sl)) ∧ (w.cell? ⟨r_2, 2, none⟩ = some (.int .i64 c.lo)) ∧ (w.cell? ⟨r_2, 3, none⟩ = some (.int .i64 c.bu))) w_55 := ⟨c_56, ((f_58).cell rfl), ((f_58).cell rfl), ((f_58).cell rfl), ((f_58).cell rfl)⟩
    refine ⟨hS_60, ?_⟩
    refine K.DW.q 4 (by kernel_rfl) rfl rfl (by kernel_rfl) rfl (fun w hS => K.QR.bd [(0, .agg #[.int .i64 c.th, .int .i64 c.sl, .int .i64 c.lo, .int .i64 c.bu]), (3, .int .i64 (((c.lo : Int) + 7) / 8))] [.int .i64 c.th, .int .i64 c.sl, .int .i64 c.lo, .int .i64 c.bu, .int .i64 0, .int .i64 0, .int .i64 (((c.lo : Int) + 7) / 8), .int .i64 0, .int .i64 0] rfl rfl (by kernel_rfl)) hS_60 ?_
    refine K.DW.l 5 rfl (by kernel_rfl) rfl (K.OW.new (t := 100) rfl (fun r => .pointer (some ⟨r, 0, none⟩)) [.int .i64 c.th, .int .i64 c.sl, .int .i64 c.lo, .int .i64 c.bu, .int .i64 0, .int .i64 0, .int .i64 (((c.lo : Int) + 7) / 8), .int .i64 0, .int .i64 0] (by kernel_rfl) ?_)
    intro w_61 r_62 hr_63 e_64 hs_65 b_66
    have c_67 := c_56.no e_64
    have z_68 := c_67.size
    have f_69 := f_58.no e_64
    have f_70 := f_59.no e_64
    have hS_71 : (fun w => K.Chg K.No w0 w ∧ (w.cell? ⟨r_2, 0, none⟩ = some (.int .i64 c.th)) ∧ (w.cell? ⟨r_2, 1, none⟩ = some (.int .i64 c.sl)) ∧ (w.cell? ⟨r_2, 2, none⟩ = some (.int .i64 c.lo)) ∧ (w.cell? ⟨r_2, 3, none⟩ = some (.int .i64 c.bu))) w_61 := ⟨c_67, ((f_69).cell rfl), ((f_69).cell rfl), ((f_69).cell rfl), ((f_69).cell rfl)⟩
    refine ⟨hS_71, ?_⟩
    refine K.DW.q 6 (by kernel_rfl) rfl rfl (by kernel_rfl) rfl (fun w hS => K.QR.k (v := .pointer (some ⟨r_62, 0, none⟩)) (by kernel_rfl)) hS_71 ?_
    refine K.DW.done (by kernel_rfl) ?_
    refine K.thn_normal ?_
    refine K.KW.seq ?_
    -- region 7 layout.go:60
    refine K.KW.region ?_
    refine K.RW.q rfl rfl (K.QR.k (v := .pointer (some ⟨r_62, 0, none⟩)) (by kernel_rfl)) ?_
    refine K.RW.q rfl rfl (K.QR.k (v := .func (.func 58) [].toArray [.pointer (some ⟨r_19, 0, none⟩)].toArray) (by kernel_rfl)) ?_
    refine K.RW.q rfl rfl (K.QR.k (v := .pointer (some ⟨r_2, 0, none⟩)) (by kernel_rfl)) ?_
    refine K.RW.q rfl rfl (K.QR.ld1 (v := .int .i64 c.th) rfl rfl (by kernel_rfl) (f_69.cell rfl)) ?_
    refine K.RW.l rfl (K.OW.callv rfl [.int .i64 c.th, .pointer (some ⟨r_19, 0, none⟩)] rfl rfl rfl (by kernel_rfl) (of1_ok _ ((5 : Int) + (((c.bu : Int) + 7) / 8)) c.th _ (by first | omega | (have := lay_bd (by assumption); omega)) (by first | omega | (have := lay_bd (by assumption); omega)) f_70) ?_) 
    rintro _ w_74 ⟨rfl, c_72, b_73⟩
    have c_75 := c_67.own c_72 (by omega)
    have z_76 := c_75.size
    have f_77 := f_69.chg c_72 (f_69.ne f_70 (by decide))
    have f_78 := b_66.chg c_72 (b_66.ne f_70 (by decide))
    refine K.RW.q rfl rfl (K.QR.k (v := .pointer (some ⟨r_62, 0, none⟩)) (by kernel_rfl)) ?_
    refine K.RW.q rfl rfl (K.QR.k (v := .pointer (some ⟨r_62, 4, none⟩)) (by kernel_rfl)) ?_
    refine K.RW.l rfl (K.OW.st [.int .i64 ((5 : Int) + (((c.bu : Int) + 7) / 8))] [.int .i64 c.th, .int .i64 c.sl, .int .i64 c.lo, .int .i64 c.bu, .int .i64 ((5 : Int) + (((c.bu : Int) + 7) / 8)), .int .i64 0, .int .i64 (((c.lo : Int) + 7) / 8), .int .i64 0, .int .i64 0] rfl rfl rfl (by kernel_rfl) f_78 rfl (K.one_cells (by rfl)) rfl rfl ?_) 
    intro w_79 e_80 hs_81 b_82
    have c_83 := c_75.own e_80 (by omega)
    have z_84 := c_83.size
    have f_85 := f_77.chg e_80 (f_77.ne f_78 (by decide))
    have f_86 := b_73.chg e_80 (b_73.ne f_78 (by decide))
    refine K.RW.nil ?_
    refine K.thn_normal ?_
    refine K.KW.seq ?_
    -- region 8 layout.go:61
    refine K.KW.drawn (fun w => K.Chg K.No w0 w ∧ (w.cell? ⟨r_2, 0, none⟩ = some (.int .i64 c.th)) ∧ (w.cell? ⟨r_62, 6, none⟩ = some (.int .i64 (((c.lo : Int) + 7) / 8)))) (by kernel_rfl) ?_
    intro w_87 e_88 hs_89
    have c_91 := c_83.no e_88
    have z_92 := c_91.size
    have f_93 := f_85.no e_88
    have f_94 := f_86.no e_88
    have f_95 := b_82.no e_88
    have hS_90 : (fun w => K.Chg K.No w0 w ∧ (w.cell? ⟨r_2, 0, none⟩ = some (.int .i64 c.th)) ∧ (w.cell? ⟨r_62, 6, none⟩ = some (.int .i64 (((c.lo : Int) + 7) / 8)))) w_87 := ⟨c_91, ((f_93).cell rfl), ((f_95).cell rfl)⟩
    refine K.DW.q 0 (by kernel_rfl) rfl rfl (by kernel_rfl) rfl (fun w hS => K.QR.k (v := .pointer (some ⟨r_62, 0, none⟩)) (by kernel_rfl)) hS_90 ?_
    refine K.DW.q 1 (by kernel_rfl) rfl rfl (by kernel_rfl) rfl (fun w hS => K.QR.k (v := .func (.func 58) [].toArray [.pointer (some ⟨r_19, 0, none⟩)].toArray) (by kernel_rfl)) hS_90 ?_
    refine K.DW.q 2 (by kernel_rfl) rfl rfl (by kernel_rfl) rfl (fun w hS => K.QR.k (v := .pointer (some ⟨r_2, 0, none⟩)) (by kernel_rfl)) hS_90 ?_
    refine K.DW.q 3 (by kernel_rfl) rfl rfl (by kernel_rfl) rfl (fun w hS => K.QR.ld1 (v := .int .i64 c.th) rfl rfl (by kernel_rfl) (hS.2.1)) hS_90 ?_
    refine K.DW.q 4 (by kernel_rfl) rfl rfl (by kernel_rfl) rfl (fun w hS => K.QR.k (v := .pointer (some ⟨r_62, 0, none⟩)) (by kernel_rfl)) hS_90 ?_
    refine K.DW.q 5 (by kernel_rfl) rfl rfl (by kernel_rfl) rfl (fun w hS => K.QR.k (v := .pointer (some ⟨r_62, 0, none⟩)) (by kernel_rfl)) hS_90 ?_
    refine K.DW.q 6 (by kernel_rfl) rfl rfl (by kernel_rfl) rfl (fun w hS => K.QR.k (v := .pointer (some ⟨r_62, 6, none⟩)) (by kernel_rfl)) hS_90 ?_
    refine K.DW.q 7 (by kernel_rfl) rfl rfl (by kernel_rfl) rfl (fun w hS => K.QR.ld1 (v := .int .i64 (((c.lo : Int) + 7) / 8)) rfl rfl (by kernel_rfl) (hS.2.2)) hS_90 ?_
    refine K.DW.q 8 (by kernel_rfl) rfl rfl (by kernel_rfl) rfl (fun w hS => K.QR.n64 ((c.th : Int) * (((c.lo : Int) + 7) / 8 : Int)) ((c.th : Int) * (((c.lo : Int) + 7) / 8 : Int)) (by kernel_rfl) (by omega)) hS_90 ?_
    refine K.DW.l 9 rfl (by kernel_rfl) rfl (K.OW.callv rfl [.int .i64 ((c.th : Int) * (((c.lo : Int) + 7) / 8 : Int)), .pointer (some ⟨r_19, 0, none⟩)] rfl rfl rfl (by kernel_rfl) (of1_ok _ (((5 : Int) + (((c.bu : Int) + 7) / 8) : Int) + c.th) ((c.th : Int) * (((c.lo : Int) + 7) / 8 : Int)) _ (by first | omega | (have := lay_bd (by assumption); omega)) (by first | omega | (have := lay_bd (by assumption); omega)) f_94) ?_)
    rintro _ w_98 ⟨rfl, c_96, b_97⟩
    have c_99 := c_91.own c_96 (by omega)
    have z_100 := c_99.size
    have f_101 := f_93.chg c_96 (f_93.ne f_94 (by decide))
    have f_102 := f_95.chg c_96 (f_95.ne f_94 (by decide))
    have hS_103 : (fun w => K.Chg K.No w0 w ∧ (w.cell? ⟨r_2, 0, none⟩ = some (.int .i64 c.th)) ∧ (w.cell? ⟨r_62, 6, none⟩ = some (.int .i64 (((c.lo : Int) + 7) / 8)))) w_98 := ⟨c_99, ((f_101).cell rfl), ((f_102).cell rfl)⟩
    refine ⟨hS_103, ?_⟩
    refine K.DW.q 10 (by kernel_rfl) rfl rfl (by kernel_rfl) rfl (fun w hS => K.QR.k (v := .pointer (some ⟨r_62, 0, none⟩)) (by kernel_rfl)) hS_103 ?_
    refine K.DW.q 11 (by kernel_rfl) rfl rfl (by kernel_rfl) rfl (fun w hS => K.QR.k (v := .pointer (some ⟨r_62, 5, none⟩)) (by kernel_rfl)) hS_103 ?_
    refine K.DW.l 12 rfl (by kernel_rfl) rfl (K.OW.st [.int .i64 (((5 : Int) + (((c.bu : Int) + 7) / 8) : Int) + c.th)] [.int .i64 c.th, .int .i64 c.sl, .int .i64 c.lo, .int .i64 c.bu, .int .i64 ((5 : Int) + (((c.bu : Int) + 7) / 8)), .int .i64 (((5 : Int) + (((c.bu : Int) + 7) / 8) : Int) + c.th), .int .i64 (((c.lo : Int) + 7) / 8), .int .i64 0, .int .i64 0] rfl rfl rfl (by kernel_rfl) f_102 rfl (K.one_cells (by rfl)) rfl rfl ?_)
    intro w_104 e_105 hs_106 b_107
    have c_108 := c_99.own e_105 (by omega)
    have z_109 := c_108.size
    have f_110 := f_101.chg e_105 (f_101.ne f_102 (by decide))
    have f_111 := b_97.chg e_105 (b_97.ne f_102 (by decide))
    have hS_112 : (fun w => K.Chg K.No w0 w ∧ (w.cell? ⟨r_2, 0, none⟩ = some (.int .i64 c.th)) ∧ (w.cell? ⟨r_62, 6, none⟩ = some (.int .i64 (((c.lo : Int) + 7) / 8)))) w_104 := ⟨c_108, ((f_110).cell rfl), ((b_107).cell rfl)⟩
    refine ⟨hS_112, ?_⟩
    refine K.DW.done (by kernel_rfl) ?_
    refine K.thn_normal ?_
    refine K.KW.seq ?_
    -- region 9 layout.go:62
    refine K.KW.region ?_
    refine K.RW.q rfl rfl (K.QR.k (v := .pointer (some ⟨r_62, 0, none⟩)) (by kernel_rfl)) ?_
    refine K.RW.q rfl rfl (K.QR.k (v := .func (.func 58) [].toArray [.pointer (some ⟨r_19, 0, none⟩)].toArray) (by kernel_rfl)) ?_
    refine K.RW.q rfl rfl (K.QR.k (v := .pointer (some ⟨r_2, 1, none⟩)) (by kernel_rfl)) ?_
    refine K.RW.q rfl rfl (K.QR.ld1 (v := .int .i64 c.sl) rfl rfl (by kernel_rfl) (f_110.cell rfl)) ?_
    refine K.RW.l rfl (K.OW.callv rfl [.int .i64 c.sl, .pointer (some ⟨r_19, 0, none⟩)] rfl rfl rfl (by kernel_rfl) (of1_ok _ ((((5 : Int) + (((c.bu : Int) + 7) / 8) : Int) + c.th : Int) + ((c.th : Int) * (((c.lo : Int) + 7) / 8 : Int))) c.sl _ (by first | omega | (have := lay_bd (by assumption); omega)) (by first | omega | (have := lay_bd (by assumption); omega)) f_111) ?_) 
    rintro _ w_115 ⟨rfl, c_113, b_114⟩
    have c_116 := c_108.own c_113 (by omega)
    have z_117 := c_116.size
    have f_118 := f_110.chg c_113 (f_110.ne f_111 (by decide))
    have f_119 := b_107.chg c_113 (b_107.ne f_111 (by decide))
    refine K.RW.q rfl rfl (K.QR.k (v := .pointer (some ⟨r_62, 0, none⟩)) (by kernel_rfl)) ?_
    refine K.RW.q rfl rfl (K.QR.k (v := .pointer (some ⟨r_62, 7, none⟩)) (by kernel_rfl)) ?_
    refine K.RW.l rfl (K.OW.st [.int .i64 ((((5 : Int) + (((c.bu : Int) + 7) / 8) : Int) + c.th : Int) + ((c.th : Int) * (((c.lo : Int) + 7) / 8 : Int)))] [.int .i64 c.th, .int .i64 c.sl, .int .i64 c.lo, .int .i64 c.bu, .int .i64 ((5 : Int) + (((c.bu : Int) + 7) / 8)), .int .i64 (((5 : Int) + (((c.bu : Int) + 7) / 8) : Int) + c.th), .int .i64 (((c.lo : Int) + 7) / 8), .int .i64 ((((5 : Int) + (((c.bu : Int) + 7) / 8) : Int) + c.th : Int) + ((c.th : Int) * (((c.lo : Int) + 7) / 8 : Int))), .int .i64 0] rfl rfl rfl (by kernel_rfl) f_119 rfl (K.one_cells (by rfl)) rfl rfl ?_) 
    intro w_120 e_121 hs_122 b_123
    have c_124 := c_116.own e_121 (by omega)
    have z_125 := c_124.size
    have f_126 := f_118.chg e_121 (f_118.ne f_119 (by decide))
    have f_127 := b_114.chg e_121 (b_114.ne f_119 (by decide))
    refine K.RW.nil ?_
    refine K.thn_normal ?_
    refine K.KW.seq ?_
    -- region 10 layout.go:63
    refine K.KW.region ?_
    refine K.RW.q rfl rfl (K.QR.k (v := .pointer (some ⟨r_62, 0, none⟩)) (by kernel_rfl)) ?_
    refine K.RW.q rfl rfl (K.QR.ld1 (v := .int .i64 (((((5 : Int) + (((c.bu : Int) + 7) / 8) : Int) + c.th : Int) + ((c.th : Int) * (((c.lo : Int) + 7) / 8 : Int)) : Int) + c.sl)) rfl rfl (by kernel_rfl) (f_127.cell rfl)) ?_
    refine K.RW.q rfl rfl (K.QR.k (v := .pointer (some ⟨r_62, 0, none⟩)) (by kernel_rfl)) ?_
    refine K.RW.q rfl rfl (K.QR.k (v := .pointer (some ⟨r_62, 8, none⟩)) (by kernel_rfl)) ?_
    refine K.RW.l rfl (K.OW.st [.int .i64 (((((5 : Int) + (((c.bu : Int) + 7) / 8) : Int) + c.th : Int) + ((c.th : Int) * (((c.lo : Int) + 7) / 8 : Int)) : Int) + c.sl)] [.int .i64 c.th, .int .i64 c.sl, .int .i64 c.lo, .int .i64 c.bu, .int .i64 ((5 : Int) + (((c.bu : Int) + 7) / 8)), .int .i64 (((5 : Int) + (((c.bu : Int) + 7) / 8) : Int) + c.th), .int .i64 (((c.lo : Int) + 7) / 8), .int .i64 ((((5 : Int) + (((c.bu : Int) + 7) / 8) : Int) + c.th : Int) + ((c.th : Int) * (((c.lo : Int) + 7) / 8 : Int))), .int .i64 (((((5 : Int) + (((c.bu : Int) + 7) / 8) : Int) + c.th : Int) + ((c.th : Int) * (((c.lo : Int) + 7) / 8 : Int)) : Int) + c.sl)] rfl rfl rfl (by kernel_rfl) b_123 rfl (K.one_cells (by rfl)) rfl rfl ?_) 
    intro w_128 e_129 hs_130 b_131
    have c_132 := c_124.own e_129 (by omega)
    have z_133 := c_132.size
    have f_134 := f_126.chg e_129 (f_126.ne b_123 (by decide))
    have f_135 := f_127.chg e_129 (f_127.ne b_123 (by decide))
    refine K.RW.nil ?_
    refine K.thn_normal ?_
    refine K.KW.seq ?_
    -- region 11 layout.go:64
    refine K.KW.region ?_
    refine K.RW.q rfl rfl (K.QR.k (v := .pointer (some ⟨r_62, 0, none⟩)) (by kernel_rfl)) ?_
    refine K.RW.q rfl rfl (K.QR.k (v := .pointer (some ⟨r_62, 0, none⟩)) (by kernel_rfl)) ?_
    refine K.RW.q rfl rfl (K.QR.k (v := .int .i64 0) (by kernel_rfl)) ?_
    refine K.RW.nil ?_
    refine K.thn_normal ?_
    refine K.KW.ret ?_
    refine ⟨.inr rfl, (.tuple #[.pointer (some ⟨r_62, 0, none⟩), .int .i64 0]), K.res2 rfl rfl rfl, ?_⟩
    refine .inl ⟨_, rfl, by assumption, c_132, by omega, ?_⟩
    have hfin := b_131
    unfold LayB
    simp only [tFirst, lFirst, sFirst, lns, lsz, tl, Int.add_assoc] at hfin ⊢
    exact hfin
  ·  -- False
    rw [hb_16] at hv_11; subst hv_11
    have hp_136 := of_decide_eq_false hb_16
    refine K.RW.q rfl rfl (K.QR.k (v := .bool true) (by kernel_rfl)) ?_
    refine K.RW.nil ?_
    refine K.thn_normal ?_
    refine K.KW.ifT rfl ?_
    refine K.KW.seq ?_
    -- region 2 layout.go:51
    refine K.KW.region ?_
    refine K.RW.q rfl rfl (K.QR.k (v := .pointer none) (by kernel_rfl)) ?_
    refine K.RW.q rfl rfl (K.QR.k (v := .int .i64 1) (by kernel_rfl)) ?_
    refine K.RW.nil ?_
    refine K.thn_normal ?_
    refine K.KW.ret ?_
    refine K.thn_ret ?_
    refine ⟨.inr rfl, (.tuple #[.pointer none, .int .i64 1]), K.res2 rfl rfl rfl, ?_⟩
    exact .inr ⟨rfl, by assumption, c_13⟩

set_option maxHeartbeats 1000000 in
set_option maxRecDepth 100000 in
theorem lConfig (b : Nat) (c : Cfg) (w0 : World) (hc : cfgOk c) (hb : LayB w0 b c) :
    K.KC Try.prog 48 #[.pointer (some ⟨b, 0, none⟩)] w0 (fun v w' => v = .agg #[.int .i64 c.th, .int .i64 c.sl, .int .i64 c.lo, .int .i64 c.bu] ∧ K.Chg K.No w0 w') := by
  have hbd := lay_bd hc
  have hcc := hc
  unfold cfgOk at hcc
  refine K.KC.mk (n := 10) Try.func48 rfl rfl [.pointer (some ⟨b, 0, none⟩)] rfl rfl ?_
  refine K.KW.seq ?_
  -- region 0 layout.go:68
  refine K.KW.region ?_
  refine K.RW.l rfl (K.OW.new (t := 63) rfl (fun r => .pointer (some ⟨r, 0, none⟩)) [.int .i64 0, .int .i64 0, .int .i64 0, .int .i64 0] (by kernel_rfl) ?_) 
  intro w_1 r_2 hr_3 e_4 hs_5 b_6
  have c_7 := e_4
  have z_8 := c_7.size
  refine K.RW.nil ?_
  refine K.thn_normal ?_
  refine K.KW.seq ?_
  refine K.KW.seq ?_
  -- region 1 layout.go:69
  refine K.KW.region ?_
  refine K.RW.q rfl rfl (K.QR.k (v := .pointer (some ⟨b, 0, none⟩)) (by kernel_rfl)) ?_
  refine K.RW.q rfl rfl (K.QR.k (v := .bool false) (by kernel_rfl)) ?_
  refine K.RW.nil ?_
  refine K.thn_normal ?_
  refine K.KW.ifF rfl ?_
  refine K.KW.skip ?_
  refine K.thn_normal ?_
  refine K.KW.seq ?_
  -- region 3 layout.go:72
  refine K.KW.region ?_
  refine K.RW.q rfl rfl (K.QR.k (v := .pointer (some ⟨b, 0, none⟩)) (by kernel_rfl)) ?_
  refine K.RW.q rfl rfl (K.QR.k (v := .pointer (some ⟨b, 0, none⟩)) (by kernel_rfl)) ?_
  refine K.RW.q rfl rfl (K.QR.k (v := .pointer (some ⟨b, 0, none⟩)) (by kernel_rfl)) ?_
  refine K.RW.q rfl rfl (K.QR.ldN [.int .i64 c.th, .int .i64 c.sl, .int .i64 c.lo, .int .i64 c.bu] rfl rfl (by kernel_rfl) (by kernel_rfl) (K.cells (K.cl (c_7.cell (hb.cell rfl) id) (K.cl (c_7.cell (hb.cell rfl) id) (K.cl (c_7.cell (hb.cell rfl) id) (K.cl (c_7.cell (hb.cell rfl) id) K.cl0)))))) ?_
  refine K.RW.l rfl (K.OW.st [.int .i64 c.th, .int .i64 c.sl, .int .i64 c.lo, .int .i64 c.bu] [.int .i64 c.th, .int .i64 c.sl, .int .i64 c.lo, .int .i64 c.bu] rfl rfl rfl (by kernel_rfl) b_6 rfl (K.one_cells (by rfl)) rfl rfl ?_) 
  intro w_9 e_10 hs_11 b_12
  have c_13 := c_7.own e_10 (by omega)
  have z_14 := c_13.size
  refine K.RW.nil ?_
  refine K.thn_normal ?_
  refine K.KW.ret ?_
  refine ⟨.inr rfl, (.agg #[.int .i64 c.th, .int .i64 c.sl, .int .i64 c.lo, .int .i64 c.bu]), K.resAt (rs := [.cell 2 63]) [.agg #[.int .i64 c.th, .int .i64 c.sl, .int .i64 c.lo, .int .i64 c.bu]] rfl ⟨⟨_, rfl, K.lvN [.int .i64 c.th, .int .i64 c.sl, .int .i64 c.lo, .int .i64 c.bu] (by kernel_rfl) (by kernel_rfl) (K.cells (K.cl (b_12.cell rfl) (K.cl (b_12.cell rfl) (K.cl (b_12.cell rfl) (K.cl (b_12.cell rfl) K.cl0)))))⟩, trivial⟩, ?_⟩
  exact ⟨rfl, c_13⟩

set_option maxHeartbeats 1000000 in
set_option maxRecDepth 100000 in
theorem lConfig0 (w0 : World) :
    K.KC Try.prog 48 #[.pointer none] w0 (fun v w' => v = .agg #[.int .i64 0, .int .i64 0, .int .i64 0, .int .i64 0] ∧ K.Chg K.No w0 w') := by
  refine K.KC.mk (n := 10) Try.func48 rfl rfl [.pointer none] rfl rfl ?_
  refine K.KW.seq ?_
  -- region 0 layout.go:68
  refine K.KW.region ?_
  refine K.RW.l rfl (K.OW.new (t := 63) rfl (fun r => .pointer (some ⟨r, 0, none⟩)) [.int .i64 0, .int .i64 0, .int .i64 0, .int .i64 0] (by kernel_rfl) ?_) 
  intro w_1 r_2 hr_3 e_4 hs_5 b_6
  have c_7 := e_4
  have z_8 := c_7.size
  refine K.RW.nil ?_
  refine K.thn_normal ?_
  refine K.KW.seq ?_
  refine K.KW.seq ?_
  -- region 1 layout.go:69
  refine K.KW.region ?_
  refine K.RW.q rfl rfl (K.QR.k (v := .pointer none) (by kernel_rfl)) ?_
  refine K.RW.q rfl rfl (K.QR.k (v := .bool true) (by kernel_rfl)) ?_
  refine K.RW.nil ?_
  refine K.thn_normal ?_
  refine K.KW.ifT rfl ?_
  refine K.KW.seq ?_
  -- region 2 layout.go:70
  refine K.KW.region ?_
  refine K.RW.q rfl rfl (K.QR.bd [] [.int .i64 0, .int .i64 0, .int .i64 0, .int .i64 0] rfl rfl (by kernel_rfl)) ?_
  refine K.RW.l rfl (K.OW.st [.int .i64 0, .int .i64 0, .int .i64 0, .int .i64 0] [.int .i64 0, .int .i64 0, .int .i64 0, .int .i64 0] rfl rfl rfl (by kernel_rfl) b_6 rfl (K.one_cells (by rfl)) rfl rfl ?_) 
  intro w_9 e_10 hs_11 b_12
  have c_13 := c_7.own e_10 (by omega)
  have z_14 := c_13.size
  refine K.RW.nil ?_
  refine K.thn_normal ?_
  refine K.KW.ret ?_
  refine K.thn_ret ?_
  refine ⟨.inr rfl, (.agg #[.int .i64 0, .int .i64 0, .int .i64 0, .int .i64 0]), K.resAt (rs := [.cell 2 63]) [.agg #[.int .i64 0, .int .i64 0, .int .i64 0, .int .i64 0]] rfl ⟨⟨_, rfl, K.lvN [.int .i64 0, .int .i64 0, .int .i64 0, .int .i64 0] (by kernel_rfl) (by kernel_rfl) (K.cells (K.cl (b_12.cell rfl) (K.cl (b_12.cell rfl) (K.cl (b_12.cell rfl) (K.cl (b_12.cell rfl) K.cl0)))))⟩, trivial⟩, ?_⟩
  exact ⟨rfl, c_13⟩

set_option maxHeartbeats 1000000 in
set_option maxRecDepth 100000 in
theorem lLines (b : Nat) (c : Cfg) (w0 : World) (hc : cfgOk c) (hb : LayB w0 b c) :
    K.KC Try.prog 49 #[.pointer (some ⟨b, 0, none⟩)] w0 (fun v w' => v = .int .i64 (lns c) ∧ K.Chg K.No w0 w') := by
  have hbd := lay_bd hc
  have hcc := hc
  unfold cfgOk at hcc
  refine K.KC.mk (n := 9) Try.func49 rfl rfl [.pointer (some ⟨b, 0, none⟩)] rfl rfl ?_
  refine K.KW.seq ?_
  -- region 0 layout.go:76
  refine K.KW.region ?_
  refine K.RW.q rfl rfl (K.QR.k (v := .int .i64 0) (by kernel_rfl)) ?_
  refine K.RW.nil ?_
  refine K.thn_normal ?_
  refine K.KW.seq ?_
  refine K.KW.seq ?_
  -- region 1 layout.go:77
  refine K.KW.region ?_
  refine K.RW.q rfl rfl (K.QR.k (v := .pointer (some ⟨b, 0, none⟩)) (by kernel_rfl)) ?_
  refine K.RW.q rfl rfl (K.QR.k (v := .bool false) (by kernel_rfl)) ?_
  refine K.RW.nil ?_
  refine K.thn_normal ?_
  refine K.KW.ifF rfl ?_
  refine K.KW.skip ?_
  refine K.thn_normal ?_
  refine K.KW.seq ?_
  -- region 3 layout.go:80
  refine K.KW.region ?_
  refine K.RW.q rfl rfl (K.QR.k (v := .pointer (some ⟨b, 0, none⟩)) (by kernel_rfl)) ?_
  refine K.RW.q rfl rfl (K.QR.k (v := .pointer (some ⟨b, 0, none⟩)) (by kernel_rfl)) ?_
  refine K.RW.q rfl rfl (K.QR.k (v := .pointer (some ⟨b, 8, none⟩)) (by kernel_rfl)) ?_
  refine K.RW.q rfl rfl (K.QR.ld1 (v := .int .i64 (lns c)) rfl rfl (by kernel_rfl) (hb.cell rfl)) ?_
  refine K.RW.q rfl rfl (K.QR.k (v := .int .i64 (lns c)) (by kernel_rfl)) ?_
  refine K.RW.nil ?_
  refine K.thn_normal ?_
  refine K.KW.ret ?_
  refine ⟨.inr rfl, (.int .i64 (lns c)), K.res1 rfl rfl, ?_⟩
  exact ⟨congrArg (Value.int .i64) (by first | rfl | omega | (unfold lns; (repeat' split) <;> omega)), (K.Chg.refl _)⟩

set_option maxHeartbeats 1000000 in
set_option maxRecDepth 100000 in
theorem lLines0 (w0 : World) :
    K.KC Try.prog 49 #[.pointer none] w0 (fun v w' => v = .int .i64 0 ∧ K.Chg K.No w0 w') := by
  refine K.KC.mk (n := 9) Try.func49 rfl rfl [.pointer none] rfl rfl ?_
  refine K.KW.seq ?_
  -- region 0 layout.go:76
  refine K.KW.region ?_
  refine K.RW.q rfl rfl (K.QR.k (v := .int .i64 0) (by kernel_rfl)) ?_
  refine K.RW.nil ?_
  refine K.thn_normal ?_
  refine K.KW.seq ?_
  refine K.KW.seq ?_
  -- region 1 layout.go:77
  refine K.KW.region ?_
  refine K.RW.q rfl rfl (K.QR.k (v := .pointer none) (by kernel_rfl)) ?_
  refine K.RW.q rfl rfl (K.QR.k (v := .bool true) (by kernel_rfl)) ?_
  refine K.RW.nil ?_
  refine K.thn_normal ?_
  refine K.KW.ifT rfl ?_
  refine K.KW.seq ?_
  -- region 2 layout.go:78
  refine K.KW.region ?_
  refine K.RW.q rfl rfl (K.QR.k (v := .int .i64 0) (by kernel_rfl)) ?_
  refine K.RW.nil ?_
  refine K.thn_normal ?_
  refine K.KW.ret ?_
  refine K.thn_ret ?_
  refine ⟨.inr rfl, (.int .i64 0), K.res1 rfl rfl, ?_⟩
  exact ⟨rfl, (K.Chg.refl _)⟩

set_option maxHeartbeats 1000000 in
set_option maxRecDepth 100000 in
theorem lPassing (b : Nat) (c : Cfg) (w0 : World) (hc : cfgOk c) (hb : LayB w0 b c) :
    K.KC Try.prog 50 #[.pointer (some ⟨b, 0, none⟩)] w0 (fun v w' => v = .int .i64 (2 + c.th + c.sl) ∧ K.Chg K.No w0 w') := by
  have hbd := lay_bd hc
  have hcc := hc
  unfold cfgOk at hcc
  refine K.KC.mk (n := 17) Try.func50 rfl rfl [.pointer (some ⟨b, 0, none⟩)] rfl rfl ?_
  refine K.KW.seq ?_
  -- region 0 layout.go:84
  refine K.KW.region ?_
  refine K.RW.q rfl rfl (K.QR.k (v := .int .i64 0) (by kernel_rfl)) ?_
  refine K.RW.nil ?_
  refine K.thn_normal ?_
  refine K.KW.seq ?_
  refine K.KW.seq ?_
  -- region 1 layout.go:85
  refine K.KW.region ?_
  refine K.RW.q rfl rfl (K.QR.k (v := .pointer (some ⟨b, 0, none⟩)) (by kernel_rfl)) ?_
  refine K.RW.q rfl rfl (K.QR.k (v := .bool false) (by kernel_rfl)) ?_
  refine K.RW.nil ?_
  refine K.thn_normal ?_
  refine K.KW.ifF rfl ?_
  refine K.KW.skip ?_
  refine K.thn_normal ?_
  refine K.KW.seq ?_
  -- region 3 layout.go:88
  refine K.KW.drawn (fun w => K.Chg K.No w0 w) (by kernel_rfl) ?_
  intro w_1 e_2 hs_3
  have c_5 := e_2
  have z_6 := c_5.size
  have hS_4 : (fun w => K.Chg K.No w0 w) w_1 := c_5
  refine K.DW.q 0 (by kernel_rfl) rfl rfl (by kernel_rfl) rfl (fun w hS => K.QR.k (v := .pointer (some ⟨b, 0, none⟩)) (by kernel_rfl)) hS_4 ?_
  refine K.DW.q 1 (by kernel_rfl) rfl rfl (by kernel_rfl) rfl (fun w hS => K.QR.k (v := .pointer (some ⟨b, 0, none⟩)) (by kernel_rfl)) hS_4 ?_
  refine K.DW.q 2 (by kernel_rfl) rfl rfl (by kernel_rfl) rfl (fun w hS => K.QR.k (v := .pointer (some ⟨b, 0, none⟩)) (by kernel_rfl)) hS_4 ?_
  refine K.DW.q 3 (by kernel_rfl) rfl rfl (by kernel_rfl) rfl (fun w hS => K.QR.k (v := .pointer (some ⟨b, 0, none⟩)) (by kernel_rfl)) hS_4 ?_
  refine K.DW.q 4 (by kernel_rfl) rfl rfl (by kernel_rfl) rfl (fun w hS => K.QR.ld1 (v := .int .i64 c.th) rfl rfl (by kernel_rfl) (hS.cell (hb.cell rfl) id)) hS_4 ?_
  refine K.DW.q 5 (by kernel_rfl) rfl rfl (by kernel_rfl) rfl (fun w hS => K.QR.n64 ((2 : Int) + (c.th : Int)) ((2 : Int) + (c.th : Int)) (by kernel_rfl) (by omega)) hS_4 ?_
  refine K.DW.q 6 (by kernel_rfl) rfl rfl (by kernel_rfl) rfl (fun w hS => K.QR.k (v := .pointer (some ⟨b, 0, none⟩)) (by kernel_rfl)) hS_4 ?_
  refine K.DW.q 7 (by kernel_rfl) rfl rfl (by kernel_rfl) rfl (fun w hS => K.QR.k (v := .pointer (some ⟨b, 0, none⟩)) (by kernel_rfl)) hS_4 ?_
  refine K.DW.q 8 (by kernel_rfl) rfl rfl (by kernel_rfl) rfl (fun w hS => K.QR.k (v := .pointer (some ⟨b, 0, none⟩)) (by kernel_rfl)) hS_4 ?_
  refine K.DW.q 9 (by kernel_rfl) rfl rfl (by kernel_rfl) rfl (fun w hS => K.QR.k (v := .pointer (some ⟨b, 1, none⟩)) (by kernel_rfl)) hS_4 ?_
  refine K.DW.q 10 (by kernel_rfl) rfl rfl (by kernel_rfl) rfl (fun w hS => K.QR.ld1 (v := .int .i64 c.sl) rfl rfl (by kernel_rfl) (hS.cell (hb.cell rfl) id)) hS_4 ?_
  refine K.DW.q 11 (by kernel_rfl) rfl rfl (by kernel_rfl) rfl (fun w hS => K.QR.n64 (((2 : Int) + (c.th : Int) : Int) + (c.sl : Int)) (((2 : Int) + (c.th : Int) : Int) + (c.sl : Int)) (by kernel_rfl) (by omega)) hS_4 ?_
  refine K.DW.q 12 (by kernel_rfl) rfl rfl (by kernel_rfl) rfl (fun w hS => K.QR.k (v := .int .i64 (((2 : Int) + (c.th : Int) : Int) + (c.sl : Int))) (by kernel_rfl)) hS_4 ?_
  refine K.DW.done (by kernel_rfl) ?_
  refine K.thn_normal ?_
  refine K.KW.ret ?_
  refine ⟨.inr rfl, (.int .i64 (((2 : Int) + (c.th : Int) : Int) + (c.sl : Int))), K.res1 rfl rfl, ?_⟩
  exact ⟨congrArg (Value.int .i64) (by first | rfl | omega | (unfold cfgOk; (repeat' split) <;> omega)), c_5⟩

set_option maxHeartbeats 1000000 in
set_option maxRecDepth 100000 in
theorem lPassing0 (w0 : World) :
    K.KC Try.prog 50 #[.pointer none] w0 (fun v w' => v = .int .i64 0 ∧ K.Chg K.No w0 w') := by
  refine K.KC.mk (n := 17) Try.func50 rfl rfl [.pointer none] rfl rfl ?_
  refine K.KW.seq ?_
  -- region 0 layout.go:84
  refine K.KW.region ?_
  refine K.RW.q rfl rfl (K.QR.k (v := .int .i64 0) (by kernel_rfl)) ?_
  refine K.RW.nil ?_
  refine K.thn_normal ?_
  refine K.KW.seq ?_
  refine K.KW.seq ?_
  -- region 1 layout.go:85
  refine K.KW.region ?_
  refine K.RW.q rfl rfl (K.QR.k (v := .pointer none) (by kernel_rfl)) ?_
  refine K.RW.q rfl rfl (K.QR.k (v := .bool true) (by kernel_rfl)) ?_
  refine K.RW.nil ?_
  refine K.thn_normal ?_
  refine K.KW.ifT rfl ?_
  refine K.KW.seq ?_
  -- region 2 layout.go:86
  refine K.KW.region ?_
  refine K.RW.q rfl rfl (K.QR.k (v := .int .i64 0) (by kernel_rfl)) ?_
  refine K.RW.nil ?_
  refine K.thn_normal ?_
  refine K.KW.ret ?_
  refine K.thn_ret ?_
  refine ⟨.inr rfl, (.int .i64 0), K.res1 rfl rfl, ?_⟩
  exact ⟨rfl, (K.Chg.refl _)⟩

set_option maxHeartbeats 1000000 in
set_option maxRecDepth 100000 in
theorem lline (b : Nat) (c : Cfg) (n : Int) (w0 : World) (hc : cfgOk c) (hn : 0 ≤ n ∧ n ≤ 1000) (hb : LayB w0 b c) :
    K.KC Try.prog 84 #[.pointer (some ⟨b, 0, none⟩), .int .i64 n] w0 (fun v w' => v = .int .i64 (n * 8) ∧ K.Chg K.No w0 w') := by
  have hbd := lay_bd hc
  have hcc := hc
  unfold cfgOk at hcc
  refine K.KC.mk (n := 9) Try.func84 rfl rfl [.pointer (some ⟨b, 0, none⟩), .int .i64 n] rfl rfl ?_
  refine K.KW.seq ?_
  -- region 0 layout.go:103
  refine K.KW.region ?_
  refine K.RW.q rfl rfl (K.QR.k (v := .int .i64 0) (by kernel_rfl)) ?_
  refine K.RW.nil ?_
  refine K.thn_normal ?_
  refine K.KW.seq ?_
  refine K.KW.seq ?_
  -- region 1 layout.go:104
  refine K.KW.region ?_
  refine K.RW.q rfl rfl (K.QR.k (v := .pointer (some ⟨b, 0, none⟩)) (by kernel_rfl)) ?_
  refine K.RW.q rfl rfl (K.QR.k (v := .bool false) (by kernel_rfl)) ?_
  refine K.RW.nil ?_
  refine K.thn_normal ?_
  refine K.KW.ifF rfl ?_
  refine K.KW.skip ?_
  refine K.thn_normal ?_
  refine K.KW.seq ?_
  -- region 3 layout.go:107
  refine K.KW.region ?_
  refine K.RW.q rfl rfl (K.QR.k (v := .int .i64 n) (by kernel_rfl)) ?_
  refine K.RW.q rfl rfl (K.QR.n64 ((n : Int) * (8 : Int)) ((n : Int) * (8 : Int)) (by kernel_rfl) (by omega)) ?_
  refine K.RW.q rfl rfl (K.QR.k (v := .int .i64 ((n : Int) * (8 : Int))) (by kernel_rfl)) ?_
  refine K.RW.nil ?_
  refine K.thn_normal ?_
  refine K.KW.ret ?_
  refine ⟨.inr rfl, (.int .i64 ((n : Int) * (8 : Int))), K.res1 rfl rfl, ?_⟩
  exact ⟨congrArg (Value.int .i64) (by first | rfl | omega | (unfold cfgOk; (repeat' split) <;> omega)), (K.Chg.refl _)⟩

set_option maxHeartbeats 1000000 in
set_option maxRecDepth 100000 in
theorem lline0 (n : Int) (w0 : World) :
    K.KC Try.prog 84 #[.pointer none, .int .i64 n] w0 (fun v w' => v = .int .i64 0 ∧ K.Chg K.No w0 w') := by
  refine K.KC.mk (n := 9) Try.func84 rfl rfl [.pointer none, .int .i64 n] rfl rfl ?_
  refine K.KW.seq ?_
  -- region 0 layout.go:103
  refine K.KW.region ?_
  refine K.RW.q rfl rfl (K.QR.k (v := .int .i64 0) (by kernel_rfl)) ?_
  refine K.RW.nil ?_
  refine K.thn_normal ?_
  refine K.KW.seq ?_
  refine K.KW.seq ?_
  -- region 1 layout.go:104
  refine K.KW.region ?_
  refine K.RW.q rfl rfl (K.QR.k (v := .pointer none) (by kernel_rfl)) ?_
  refine K.RW.q rfl rfl (K.QR.k (v := .bool true) (by kernel_rfl)) ?_
  refine K.RW.nil ?_
  refine K.thn_normal ?_
  refine K.KW.ifT rfl ?_
  refine K.KW.seq ?_
  -- region 2 layout.go:105
  refine K.KW.region ?_
  refine K.RW.q rfl rfl (K.QR.k (v := .int .i64 0) (by kernel_rfl)) ?_
  refine K.RW.nil ?_
  refine K.thn_normal ?_
  refine K.KW.ret ?_
  refine K.thn_ret ?_
  refine ⟨.inr rfl, (.int .i64 0), K.res1 rfl rfl, ?_⟩
  exact ⟨rfl, (K.Chg.refl _)⟩

set_option maxHeartbeats 1000000 in
set_option maxRecDepth 100000 in
theorem lpass (b : Nat) (c : Cfg) (n : Int) (w0 : World) (hc : cfgOk c) (hn : 0 ≤ n ∧ n ≤ 1000000) (hb : LayB w0 b c) :
    K.KC Try.prog 90 #[.pointer (some ⟨b, 0, none⟩), .int .i64 n] w0 (fun v w' => v = .int .i64 (-1 - n) ∧ K.Chg K.No w0 w') := by
  have hbd := lay_bd hc
  have hcc := hc
  unfold cfgOk at hcc
  refine K.KC.mk (n := 9) Try.func90 rfl rfl [.pointer (some ⟨b, 0, none⟩), .int .i64 n] rfl rfl ?_
  refine K.KW.seq ?_
  -- region 0 layout.go:177
  refine K.KW.region ?_
  refine K.RW.q rfl rfl (K.QR.k (v := .int .i64 0) (by kernel_rfl)) ?_
  refine K.RW.nil ?_
  refine K.thn_normal ?_
  refine K.KW.seq ?_
  refine K.KW.seq ?_
  -- region 1 layout.go:178
  refine K.KW.region ?_
  refine K.RW.q rfl rfl (K.QR.k (v := .pointer (some ⟨b, 0, none⟩)) (by kernel_rfl)) ?_
  refine K.RW.q rfl rfl (K.QR.k (v := .bool false) (by kernel_rfl)) ?_
  refine K.RW.nil ?_
  refine K.thn_normal ?_
  refine K.KW.ifF rfl ?_
  refine K.KW.skip ?_
  refine K.thn_normal ?_
  refine K.KW.seq ?_
  -- region 3 layout.go:181
  refine K.KW.region ?_
  refine K.RW.q rfl rfl (K.QR.k (v := .int .i64 n) (by kernel_rfl)) ?_
  refine K.RW.q rfl rfl (K.QR.n64 (((-1) : Int) - (n : Int)) (((-1) : Int) - (n : Int)) (by kernel_rfl) (by omega)) ?_
  refine K.RW.q rfl rfl (K.QR.k (v := .int .i64 (((-1) : Int) - (n : Int))) (by kernel_rfl)) ?_
  refine K.RW.nil ?_
  refine K.thn_normal ?_
  refine K.KW.ret ?_
  refine ⟨.inr rfl, (.int .i64 (((-1) : Int) - (n : Int))), K.res1 rfl rfl, ?_⟩
  exact ⟨congrArg (Value.int .i64) (by first | rfl | omega | (unfold cfgOk; (repeat' split) <;> omega)), (K.Chg.refl _)⟩

set_option maxHeartbeats 1000000 in
set_option maxRecDepth 100000 in
theorem lpass0 (n : Int) (w0 : World) :
    K.KC Try.prog 90 #[.pointer none, .int .i64 n] w0 (fun v w' => v = .int .i64 0 ∧ K.Chg K.No w0 w') := by
  refine K.KC.mk (n := 9) Try.func90 rfl rfl [.pointer none, .int .i64 n] rfl rfl ?_
  refine K.KW.seq ?_
  -- region 0 layout.go:177
  refine K.KW.region ?_
  refine K.RW.q rfl rfl (K.QR.k (v := .int .i64 0) (by kernel_rfl)) ?_
  refine K.RW.nil ?_
  refine K.thn_normal ?_
  refine K.KW.seq ?_
  refine K.KW.seq ?_
  -- region 1 layout.go:178
  refine K.KW.region ?_
  refine K.RW.q rfl rfl (K.QR.k (v := .pointer none) (by kernel_rfl)) ?_
  refine K.RW.q rfl rfl (K.QR.k (v := .bool true) (by kernel_rfl)) ?_
  refine K.RW.nil ?_
  refine K.thn_normal ?_
  refine K.KW.ifT rfl ?_
  refine K.KW.seq ?_
  -- region 2 layout.go:179
  refine K.KW.region ?_
  refine K.RW.q rfl rfl (K.QR.k (v := .int .i64 0) (by kernel_rfl)) ?_
  refine K.RW.nil ?_
  refine K.thn_normal ?_
  refine K.KW.ret ?_
  refine K.thn_ret ?_
  refine ⟨.inr rfl, (.int .i64 0), K.res1 rfl rfl, ?_⟩
  exact ⟨rfl, (K.Chg.refl _)⟩

set_option maxHeartbeats 1000000 in
set_option maxRecDepth 100000 in
theorem lHead (b : Nat) (c : Cfg) (w0 : World) (hc : cfgOk c) (hb : LayB w0 b c) :
    K.KC Try.prog 68 #[.pointer (some ⟨b, 0, none⟩)] w0 (fun v w' => v = .int .i64 (16) ∧ K.Chg K.No w0 w') := by
  have hbd := lay_bd hc
  have hcc := hc
  unfold cfgOk at hcc
  refine K.KC.mk (n := 5) Try.func68 rfl rfl [.pointer (some ⟨b, 0, none⟩)] rfl rfl ?_
  refine K.KW.seq ?_
  -- region 0 layout.go:111
  refine K.KW.region ?_
  refine K.RW.q rfl rfl (K.QR.k (v := .int .i64 0) (by kernel_rfl)) ?_
  refine K.RW.nil ?_
  refine K.thn_normal ?_
  refine K.KW.seq ?_
  -- region 1 layout.go:111
  refine K.KW.region ?_
  refine K.RW.q rfl rfl (K.QR.k (v := .pointer (some ⟨b, 0, none⟩)) (by kernel_rfl)) ?_
  refine K.RW.l rfl (K.OW.call rfl [.pointer (some ⟨b, 0, none⟩), .int .i64 2] rfl rfl (by kernel_rfl) (lline _ c 2 _ (by assumption) (by first | omega | (have := lay_bd (by assumption); unfold cfgOk at *; omega)) hb) ?_) 
  rintro _ w_2 ⟨rfl, c_1⟩
  have c_3 := c_1
  have z_4 := c_3.size
  refine K.RW.q rfl rfl (K.QR.k (v := .int .i64 ((2) * 8)) (by kernel_rfl)) ?_
  refine K.RW.nil ?_
  refine K.thn_normal ?_
  refine K.KW.ret ?_
  refine ⟨.inr rfl, (.int .i64 ((2) * 8)), K.res1 rfl rfl, ?_⟩
  exact ⟨congrArg (Value.int .i64) (by first | rfl | omega | (unfold cfgOk; (repeat' split) <;> omega)), c_3⟩

set_option maxHeartbeats 1000000 in
set_option maxRecDepth 100000 in
theorem lHead0 (w0 : World) :
    K.KC Try.prog 68 #[.pointer none] w0 (fun v w' => v = .int .i64 0 ∧ K.Chg K.No w0 w') := by
  refine K.KC.mk (n := 5) Try.func68 rfl rfl [.pointer none] rfl rfl ?_
  refine K.KW.seq ?_
  -- region 0 layout.go:111
  refine K.KW.region ?_
  refine K.RW.q rfl rfl (K.QR.k (v := .int .i64 0) (by kernel_rfl)) ?_
  refine K.RW.nil ?_
  refine K.thn_normal ?_
  refine K.KW.seq ?_
  -- region 1 layout.go:111
  refine K.KW.region ?_
  refine K.RW.q rfl rfl (K.QR.k (v := .pointer none) (by kernel_rfl)) ?_
  refine K.RW.l rfl (K.OW.call rfl [.pointer none, .int .i64 2] rfl rfl (by kernel_rfl) (lline0 2 _) ?_) 
  rintro _ w_2 ⟨rfl, c_1⟩
  have c_3 := c_1
  have z_4 := c_3.size
  refine K.RW.q rfl rfl (K.QR.k (v := .int .i64 0) (by kernel_rfl)) ?_
  refine K.RW.nil ?_
  refine K.thn_normal ?_
  refine K.KW.ret ?_
  refine ⟨.inr rfl, (.int .i64 0), K.res1 rfl rfl, ?_⟩
  exact ⟨rfl, c_3⟩

set_option maxHeartbeats 1000000 in
set_option maxRecDepth 100000 in
theorem lTail (b : Nat) (c : Cfg) (w0 : World) (hc : cfgOk c) (hb : LayB w0 b c) :
    K.KC Try.prog 69 #[.pointer (some ⟨b, 0, none⟩)] w0 (fun v w' => v = .int .i64 (24) ∧ K.Chg K.No w0 w') := by
  have hbd := lay_bd hc
  have hcc := hc
  unfold cfgOk at hcc
  refine K.KC.mk (n := 5) Try.func69 rfl rfl [.pointer (some ⟨b, 0, none⟩)] rfl rfl ?_
  refine K.KW.seq ?_
  -- region 0 layout.go:114
  refine K.KW.region ?_
  refine K.RW.q rfl rfl (K.QR.k (v := .int .i64 0) (by kernel_rfl)) ?_
  refine K.RW.nil ?_
  refine K.thn_normal ?_
  refine K.KW.seq ?_
  -- region 1 layout.go:114
  refine K.KW.region ?_
  refine K.RW.q rfl rfl (K.QR.k (v := .pointer (some ⟨b, 0, none⟩)) (by kernel_rfl)) ?_
  refine K.RW.l rfl (K.OW.call rfl [.pointer (some ⟨b, 0, none⟩), .int .i64 3] rfl rfl (by kernel_rfl) (lline _ c 3 _ (by assumption) (by first | omega | (have := lay_bd (by assumption); unfold cfgOk at *; omega)) hb) ?_) 
  rintro _ w_2 ⟨rfl, c_1⟩
  have c_3 := c_1
  have z_4 := c_3.size
  refine K.RW.q rfl rfl (K.QR.k (v := .int .i64 ((3) * 8)) (by kernel_rfl)) ?_
  refine K.RW.nil ?_
  refine K.thn_normal ?_
  refine K.KW.ret ?_
  refine ⟨.inr rfl, (.int .i64 ((3) * 8)), K.res1 rfl rfl, ?_⟩
  exact ⟨congrArg (Value.int .i64) (by first | rfl | omega | (unfold cfgOk; (repeat' split) <;> omega)), c_3⟩

set_option maxHeartbeats 1000000 in
set_option maxRecDepth 100000 in
theorem lTail0 (w0 : World) :
    K.KC Try.prog 69 #[.pointer none] w0 (fun v w' => v = .int .i64 0 ∧ K.Chg K.No w0 w') := by
  refine K.KC.mk (n := 5) Try.func69 rfl rfl [.pointer none] rfl rfl ?_
  refine K.KW.seq ?_
  -- region 0 layout.go:114
  refine K.KW.region ?_
  refine K.RW.q rfl rfl (K.QR.k (v := .int .i64 0) (by kernel_rfl)) ?_
  refine K.RW.nil ?_
  refine K.thn_normal ?_
  refine K.KW.seq ?_
  -- region 1 layout.go:114
  refine K.KW.region ?_
  refine K.RW.q rfl rfl (K.QR.k (v := .pointer none) (by kernel_rfl)) ?_
  refine K.RW.l rfl (K.OW.call rfl [.pointer none, .int .i64 3] rfl rfl (by kernel_rfl) (lline0 3 _) ?_) 
  rintro _ w_2 ⟨rfl, c_1⟩
  have c_3 := c_1
  have z_4 := c_3.size
  refine K.RW.q rfl rfl (K.QR.k (v := .int .i64 0) (by kernel_rfl)) ?_
  refine K.RW.nil ?_
  refine K.thn_normal ?_
  refine K.KW.ret ?_
  refine ⟨.inr rfl, (.int .i64 0), K.res1 rfl rfl, ?_⟩
  exact ⟨rfl, c_3⟩

set_option maxHeartbeats 1000000 in
set_option maxRecDepth 100000 in
theorem lSet (b : Nat) (c : Cfg) (w0 : World) (hc : cfgOk c) (hb : LayB w0 b c) :
    K.KC Try.prog 70 #[.pointer (some ⟨b, 0, none⟩)] w0 (fun v w' => v = .int .i64 (32) ∧ K.Chg K.No w0 w') := by
  have hbd := lay_bd hc
  have hcc := hc
  unfold cfgOk at hcc
  refine K.KC.mk (n := 5) Try.func70 rfl rfl [.pointer (some ⟨b, 0, none⟩)] rfl rfl ?_
  refine K.KW.seq ?_
  -- region 0 layout.go:117
  refine K.KW.region ?_
  refine K.RW.q rfl rfl (K.QR.k (v := .int .i64 0) (by kernel_rfl)) ?_
  refine K.RW.nil ?_
  refine K.thn_normal ?_
  refine K.KW.seq ?_
  -- region 1 layout.go:117
  refine K.KW.region ?_
  refine K.RW.q rfl rfl (K.QR.k (v := .pointer (some ⟨b, 0, none⟩)) (by kernel_rfl)) ?_
  refine K.RW.l rfl (K.OW.call rfl [.pointer (some ⟨b, 0, none⟩), .int .i64 4] rfl rfl (by kernel_rfl) (lline _ c 4 _ (by assumption) (by first | omega | (have := lay_bd (by assumption); unfold cfgOk at *; omega)) hb) ?_) 
  rintro _ w_2 ⟨rfl, c_1⟩
  have c_3 := c_1
  have z_4 := c_3.size
  refine K.RW.q rfl rfl (K.QR.k (v := .int .i64 ((4) * 8)) (by kernel_rfl)) ?_
  refine K.RW.nil ?_
  refine K.thn_normal ?_
  refine K.KW.ret ?_
  refine ⟨.inr rfl, (.int .i64 ((4) * 8)), K.res1 rfl rfl, ?_⟩
  exact ⟨congrArg (Value.int .i64) (by first | rfl | omega | (unfold cfgOk; (repeat' split) <;> omega)), c_3⟩

set_option maxHeartbeats 1000000 in
set_option maxRecDepth 100000 in
theorem lSet0 (w0 : World) :
    K.KC Try.prog 70 #[.pointer none] w0 (fun v w' => v = .int .i64 0 ∧ K.Chg K.No w0 w') := by
  refine K.KC.mk (n := 5) Try.func70 rfl rfl [.pointer none] rfl rfl ?_
  refine K.KW.seq ?_
  -- region 0 layout.go:117
  refine K.KW.region ?_
  refine K.RW.q rfl rfl (K.QR.k (v := .int .i64 0) (by kernel_rfl)) ?_
  refine K.RW.nil ?_
  refine K.thn_normal ?_
  refine K.KW.seq ?_
  -- region 1 layout.go:117
  refine K.KW.region ?_
  refine K.RW.q rfl rfl (K.QR.k (v := .pointer none) (by kernel_rfl)) ?_
  refine K.RW.l rfl (K.OW.call rfl [.pointer none, .int .i64 4] rfl rfl (by kernel_rfl) (lline0 4 _) ?_) 
  rintro _ w_2 ⟨rfl, c_1⟩
  have c_3 := c_1
  have z_4 := c_3.size
  refine K.RW.q rfl rfl (K.QR.k (v := .int .i64 0) (by kernel_rfl)) ?_
  refine K.RW.nil ?_
  refine K.thn_normal ?_
  refine K.KW.ret ?_
  refine ⟨.inr rfl, (.int .i64 0), K.res1 rfl rfl, ?_⟩
  exact ⟨rfl, c_3⟩

set_option maxHeartbeats 1000000 in
set_option maxRecDepth 100000 in
theorem lEpoch (b : Nat) (c : Cfg) (w0 : World) (hc : cfgOk c) (hb : LayB w0 b c) :
    K.KC Try.prog 76 #[.pointer (some ⟨b, 0, none⟩)] w0 (fun v w' => v = .int .i64 (-1) ∧ K.Chg K.No w0 w') := by
  have hbd := lay_bd hc
  have hcc := hc
  unfold cfgOk at hcc
  refine K.KC.mk (n := 5) Try.func76 rfl rfl [.pointer (some ⟨b, 0, none⟩)] rfl rfl ?_
  refine K.KW.seq ?_
  -- region 0 layout.go:185
  refine K.KW.region ?_
  refine K.RW.q rfl rfl (K.QR.k (v := .int .i64 0) (by kernel_rfl)) ?_
  refine K.RW.nil ?_
  refine K.thn_normal ?_
  refine K.KW.seq ?_
  -- region 1 layout.go:185
  refine K.KW.region ?_
  refine K.RW.q rfl rfl (K.QR.k (v := .pointer (some ⟨b, 0, none⟩)) (by kernel_rfl)) ?_
  refine K.RW.l rfl (K.OW.call rfl [.pointer (some ⟨b, 0, none⟩), .int .i64 0] rfl rfl (by kernel_rfl) (lpass _ c 0 _ (by assumption) (by first | omega | (have := lay_bd (by assumption); unfold cfgOk at *; omega)) hb) ?_) 
  rintro _ w_2 ⟨rfl, c_1⟩
  have c_3 := c_1
  have z_4 := c_3.size
  refine K.RW.q rfl rfl (K.QR.k (v := .int .i64 (-1 - (0))) (by kernel_rfl)) ?_
  refine K.RW.nil ?_
  refine K.thn_normal ?_
  refine K.KW.ret ?_
  refine ⟨.inr rfl, (.int .i64 (-1 - (0))), K.res1 rfl rfl, ?_⟩
  exact ⟨congrArg (Value.int .i64) (by first | rfl | omega | (unfold cfgOk; (repeat' split) <;> omega)), c_3⟩

set_option maxHeartbeats 1000000 in
set_option maxRecDepth 100000 in
theorem lEpoch0 (w0 : World) :
    K.KC Try.prog 76 #[.pointer none] w0 (fun v w' => v = .int .i64 0 ∧ K.Chg K.No w0 w') := by
  refine K.KC.mk (n := 5) Try.func76 rfl rfl [.pointer none] rfl rfl ?_
  refine K.KW.seq ?_
  -- region 0 layout.go:185
  refine K.KW.region ?_
  refine K.RW.q rfl rfl (K.QR.k (v := .int .i64 0) (by kernel_rfl)) ?_
  refine K.RW.nil ?_
  refine K.thn_normal ?_
  refine K.KW.seq ?_
  -- region 1 layout.go:185
  refine K.KW.region ?_
  refine K.RW.q rfl rfl (K.QR.k (v := .pointer none) (by kernel_rfl)) ?_
  refine K.RW.l rfl (K.OW.call rfl [.pointer none, .int .i64 0] rfl rfl (by kernel_rfl) (lpass0 0 _) ?_) 
  rintro _ w_2 ⟨rfl, c_1⟩
  have c_3 := c_1
  have z_4 := c_3.size
  refine K.RW.q rfl rfl (K.QR.k (v := .int .i64 0) (by kernel_rfl)) ?_
  refine K.RW.nil ?_
  refine K.thn_normal ?_
  refine K.KW.ret ?_
  refine ⟨.inr rfl, (.int .i64 0), K.res1 rfl rfl, ?_⟩
  exact ⟨rfl, c_3⟩

set_option maxHeartbeats 1000000 in
set_option maxRecDepth 100000 in
theorem lFree (b : Nat) (c : Cfg) (w0 : World) (hc : cfgOk c) (hb : LayB w0 b c) :
    K.KC Try.prog 77 #[.pointer (some ⟨b, 0, none⟩)] w0 (fun v w' => v = .int .i64 (-2) ∧ K.Chg K.No w0 w') := by
  have hbd := lay_bd hc
  have hcc := hc
  unfold cfgOk at hcc
  refine K.KC.mk (n := 5) Try.func77 rfl rfl [.pointer (some ⟨b, 0, none⟩)] rfl rfl ?_
  refine K.KW.seq ?_
  -- region 0 layout.go:188
  refine K.KW.region ?_
  refine K.RW.q rfl rfl (K.QR.k (v := .int .i64 0) (by kernel_rfl)) ?_
  refine K.RW.nil ?_
  refine K.thn_normal ?_
  refine K.KW.seq ?_
  -- region 1 layout.go:188
  refine K.KW.region ?_
  refine K.RW.q rfl rfl (K.QR.k (v := .pointer (some ⟨b, 0, none⟩)) (by kernel_rfl)) ?_
  refine K.RW.l rfl (K.OW.call rfl [.pointer (some ⟨b, 0, none⟩), .int .i64 1] rfl rfl (by kernel_rfl) (lpass _ c 1 _ (by assumption) (by first | omega | (have := lay_bd (by assumption); unfold cfgOk at *; omega)) hb) ?_) 
  rintro _ w_2 ⟨rfl, c_1⟩
  have c_3 := c_1
  have z_4 := c_3.size
  refine K.RW.q rfl rfl (K.QR.k (v := .int .i64 (-1 - (1))) (by kernel_rfl)) ?_
  refine K.RW.nil ?_
  refine K.thn_normal ?_
  refine K.KW.ret ?_
  refine ⟨.inr rfl, (.int .i64 (-1 - (1))), K.res1 rfl rfl, ?_⟩
  exact ⟨congrArg (Value.int .i64) (by first | rfl | omega | (unfold cfgOk; (repeat' split) <;> omega)), c_3⟩

set_option maxHeartbeats 1000000 in
set_option maxRecDepth 100000 in
theorem lFree0 (w0 : World) :
    K.KC Try.prog 77 #[.pointer none] w0 (fun v w' => v = .int .i64 0 ∧ K.Chg K.No w0 w') := by
  refine K.KC.mk (n := 5) Try.func77 rfl rfl [.pointer none] rfl rfl ?_
  refine K.KW.seq ?_
  -- region 0 layout.go:188
  refine K.KW.region ?_
  refine K.RW.q rfl rfl (K.QR.k (v := .int .i64 0) (by kernel_rfl)) ?_
  refine K.RW.nil ?_
  refine K.thn_normal ?_
  refine K.KW.seq ?_
  -- region 1 layout.go:188
  refine K.KW.region ?_
  refine K.RW.q rfl rfl (K.QR.k (v := .pointer none) (by kernel_rfl)) ?_
  refine K.RW.l rfl (K.OW.call rfl [.pointer none, .int .i64 1] rfl rfl (by kernel_rfl) (lpass0 1 _) ?_) 
  rintro _ w_2 ⟨rfl, c_1⟩
  have c_3 := c_1
  have z_4 := c_3.size
  refine K.RW.q rfl rfl (K.QR.k (v := .int .i64 0) (by kernel_rfl)) ?_
  refine K.RW.nil ?_
  refine K.thn_normal ?_
  refine K.KW.ret ?_
  refine ⟨.inr rfl, (.int .i64 0), K.res1 rfl rfl, ?_⟩
  exact ⟨rfl, c_3⟩

set_option maxHeartbeats 1000000 in
set_option maxRecDepth 100000 in
theorem lBucket (b : Nat) (c : Cfg) (n : Int) (w0 : World) (hc : cfgOk c) (hb : LayB w0 b c) :
    K.KC Try.prog 60 #[.pointer (some ⟨b, 0, none⟩), .int .i64 n] w0 (fun v w' => v = .int .i64 (bucketS c n) ∧ K.Chg K.No w0 w') := by
  have hbd := lay_bd hc
  have hcc := hc
  unfold cfgOk at hcc
  refine K.KC.mk (n := 20) Try.func60 rfl rfl [.pointer (some ⟨b, 0, none⟩), .int .i64 n] rfl rfl ?_
  refine K.KW.seq ?_
  -- region 0 layout.go:120
  refine K.KW.region ?_
  refine K.RW.q rfl rfl (K.QR.k (v := .int .i64 0) (by kernel_rfl)) ?_
  refine K.RW.nil ?_
  refine K.thn_normal ?_
  refine K.KW.seq ?_
  -- region 1 layout.go:121
  refine K.KW.region ?_
  refine K.RW.q rfl rfl (K.QR.k (v := .pointer (some ⟨b, 0, none⟩)) (by kernel_rfl)) ?_
  refine K.RW.l rfl (K.OW.call rfl [.pointer (some ⟨b, 0, none⟩)] rfl rfl (by kernel_rfl) (lConfig _ c  _ (by assumption) hb) ?_) 
  rintro _ w_2 ⟨rfl, c_1⟩
  have c_3 := c_1
  have z_4 := c_3.size
  refine K.RW.l rfl (K.OW.new (t := 63) rfl (fun r => .pointer (some ⟨r, 0, none⟩)) [.int .i64 0, .int .i64 0, .int .i64 0, .int .i64 0] (by kernel_rfl) ?_) 
  intro w_5 r_6 hr_7 e_8 hs_9 b_10
  have c_11 := c_3.no e_8
  have z_12 := c_11.size
  refine K.RW.l rfl (K.OW.st [.int .i64 c.th, .int .i64 c.sl, .int .i64 c.lo, .int .i64 c.bu] [.int .i64 c.th, .int .i64 c.sl, .int .i64 c.lo, .int .i64 c.bu] rfl rfl rfl (by kernel_rfl) b_10 rfl (K.one_cells (by rfl)) rfl rfl ?_) 
  intro w_13 e_14 hs_15 b_16
  have c_17 := c_11.own e_14 (by omega)
  have z_18 := c_17.size
  refine K.RW.nil ?_
  refine K.thn_normal ?_
  refine K.KW.seq ?_
  refine K.KW.seq ?_
  -- region 2 layout.go:122
  refine K.KW.region ?_
  refine K.RW.q rfl rfl (K.QR.k (v := .int .i64 n) (by kernel_rfl)) ?_
  refine K.RW.q rfl rfl (K.QR.k (v := .pointer (some ⟨r_6, 3, none⟩)) (by kernel_rfl)) ?_
  refine K.RW.q rfl rfl (K.QR.ld1 (v := .int .i64 c.bu) rfl rfl (by kernel_rfl) (b_16.cell rfl)) ?_
  refine K.RW.l rfl (K.OW.call rfl [.int .i64 n, .int .i64 c.bu] rfl rfl (by kernel_rfl) (has_ok n c.bu _) ?_) 
  rintro v_22 w_20 ⟨hv_21, c_19⟩
  have c_23 := c_17.no c_19
  have z_24 := c_23.size
  have f_25 := b_16.no c_19
  rcases Bool.eq_false_or_eq_true (decide (0 ≤ (n : Int) ∧ (n : Int) < (c.bu : Int))) with hb_26 | hb_26
  ·  -- True
    rw [hb_26] at hv_21; subst hv_21
    have hp_27 := of_decide_eq_true hb_26
    refine K.RW.q rfl rfl (K.QR.k (v := .bool false) (by kernel_rfl)) ?_
    refine K.RW.nil ?_
    refine K.thn_normal ?_
    refine K.KW.ifF rfl ?_
    refine K.KW.skip ?_
    refine K.thn_normal ?_
    refine K.KW.seq ?_
    -- region 4 layout.go:125
    refine K.KW.region ?_
    refine K.RW.q rfl rfl (K.QR.k (v := .pointer (some ⟨b, 0, none⟩)) (by kernel_rfl)) ?_
    refine K.RW.l rfl (K.OW.call rfl [.pointer (some ⟨b, 0, none⟩), .int .i64 5] rfl rfl (by kernel_rfl) (lline _ c 5 _ (by assumption) (by first | omega | (have := lay_bd (by assumption); unfold cfgOk at *; omega)) (hb.no c_23)) ?_) 
    rintro _ w_29 ⟨rfl, c_28⟩
    have c_30 := c_23.no c_28
    have z_31 := c_30.size
    have f_32 := f_25.no c_28
    refine K.RW.q rfl rfl (K.QR.k (v := .int .i64 n) (by kernel_rfl)) ?_
    refine K.RW.q rfl rfl (K.QR.n64 ((((5) * 8) : Int) + (n : Int)) ((((5) * 8) : Int) + (n : Int)) (by kernel_rfl) (by omega)) ?_
    refine K.RW.q rfl rfl (K.QR.k (v := .int .i64 ((((5) * 8) : Int) + (n : Int))) (by kernel_rfl)) ?_
    refine K.RW.nil ?_
    refine K.thn_normal ?_
    refine K.KW.ret ?_
    refine ⟨.inr rfl, (.int .i64 ((((5) * 8) : Int) + (n : Int))), K.res1 rfl rfl, ?_⟩
    exact ⟨congrArg (Value.int .i64) (by first | rfl | omega | (unfold bucketS; (repeat' split) <;> omega)), c_30⟩
  ·  -- False
    rw [hb_26] at hv_21; subst hv_21
    have hp_33 := of_decide_eq_false hb_26
    refine K.RW.q rfl rfl (K.QR.k (v := .bool true) (by kernel_rfl)) ?_
    refine K.RW.nil ?_
    refine K.thn_normal ?_
    refine K.KW.ifT rfl ?_
    refine K.KW.seq ?_
    -- region 3 layout.go:123
    refine K.KW.region ?_
    refine K.RW.q rfl rfl (K.QR.k (v := .pointer (some ⟨b, 0, none⟩)) (by kernel_rfl)) ?_
    refine K.RW.l rfl (K.OW.call rfl [.pointer (some ⟨b, 0, none⟩)] rfl rfl (by kernel_rfl) (lLines _ c  _ (by assumption) (hb.no c_23)) ?_) 
    rintro _ w_35 ⟨rfl, c_34⟩
    have c_36 := c_23.no c_34
    have z_37 := c_36.size
    have f_38 := f_25.no c_34
    refine K.RW.q rfl rfl (K.QR.n64 (((lns c) : Int) * (8 : Int)) (((lns c) : Int) * (8 : Int)) (by kernel_rfl) (by omega)) ?_
    refine K.RW.q rfl rfl (K.QR.k (v := .int .i64 (((lns c) : Int) * (8 : Int))) (by kernel_rfl)) ?_
    refine K.RW.nil ?_
    refine K.thn_normal ?_
    refine K.KW.ret ?_
    refine K.thn_ret ?_
    refine ⟨.inr rfl, (.int .i64 (((lns c) : Int) * (8 : Int))), K.res1 rfl rfl, ?_⟩
    exact ⟨congrArg (Value.int .i64) (by first | rfl | omega | (unfold bucketS; (repeat' split) <;> omega)), c_36⟩

set_option maxHeartbeats 1000000 in
set_option maxRecDepth 100000 in
theorem lBucket0 (n : Int) (w0 : World) :
    K.KC Try.prog 60 #[.pointer none, .int .i64 n] w0 (fun v w' => v = .int .i64 0 ∧ K.Chg K.No w0 w') := by
  refine K.KC.mk (n := 20) Try.func60 rfl rfl [.pointer none, .int .i64 n] rfl rfl ?_
  refine K.KW.seq ?_
  -- region 0 layout.go:120
  refine K.KW.region ?_
  refine K.RW.q rfl rfl (K.QR.k (v := .int .i64 0) (by kernel_rfl)) ?_
  refine K.RW.nil ?_
  refine K.thn_normal ?_
  refine K.KW.seq ?_
  -- region 1 layout.go:121
  refine K.KW.region ?_
  refine K.RW.q rfl rfl (K.QR.k (v := .pointer none) (by kernel_rfl)) ?_
  refine K.RW.l rfl (K.OW.call rfl [.pointer none] rfl rfl (by kernel_rfl) (lConfig0  _) ?_) 
  rintro _ w_2 ⟨rfl, c_1⟩
  have c_3 := c_1
  have z_4 := c_3.size
  refine K.RW.l rfl (K.OW.new (t := 63) rfl (fun r => .pointer (some ⟨r, 0, none⟩)) [.int .i64 0, .int .i64 0, .int .i64 0, .int .i64 0] (by kernel_rfl) ?_) 
  intro w_5 r_6 hr_7 e_8 hs_9 b_10
  have c_11 := c_3.no e_8
  have z_12 := c_11.size
  refine K.RW.l rfl (K.OW.st [.int .i64 0, .int .i64 0, .int .i64 0, .int .i64 0] [.int .i64 0, .int .i64 0, .int .i64 0, .int .i64 0] rfl rfl rfl (by kernel_rfl) b_10 rfl (K.one_cells (by rfl)) rfl rfl ?_) 
  intro w_13 e_14 hs_15 b_16
  have c_17 := c_11.own e_14 (by omega)
  have z_18 := c_17.size
  refine K.RW.nil ?_
  refine K.thn_normal ?_
  refine K.KW.seq ?_
  refine K.KW.seq ?_
  -- region 2 layout.go:122
  refine K.KW.region ?_
  refine K.RW.q rfl rfl (K.QR.k (v := .int .i64 n) (by kernel_rfl)) ?_
  refine K.RW.q rfl rfl (K.QR.k (v := .pointer (some ⟨r_6, 3, none⟩)) (by kernel_rfl)) ?_
  refine K.RW.q rfl rfl (K.QR.ld1 (v := .int .i64 0) rfl rfl (by kernel_rfl) (b_16.cell rfl)) ?_
  refine K.RW.l rfl (K.OW.call rfl [.int .i64 n, .int .i64 0] rfl rfl (by kernel_rfl) (has_ok n 0 _) ?_) 
  rintro v_22 w_20 ⟨hv_21, c_19⟩
  have c_23 := c_17.no c_19
  have z_24 := c_23.size
  have f_25 := b_16.no c_19
  have hb_26 : decide (0 ≤ (n : Int) ∧ (n : Int) < (0 : Int)) = false := (decide_eq_false (by omega))
  rw [hb_26] at hv_21; subst hv_21
  refine K.RW.q rfl rfl (K.QR.k (v := .bool true) (by kernel_rfl)) ?_
  refine K.RW.nil ?_
  refine K.thn_normal ?_
  refine K.KW.ifT rfl ?_
  refine K.KW.seq ?_
  -- region 3 layout.go:123
  refine K.KW.region ?_
  refine K.RW.q rfl rfl (K.QR.k (v := .pointer none) (by kernel_rfl)) ?_
  refine K.RW.l rfl (K.OW.call rfl [.pointer none] rfl rfl (by kernel_rfl) (lLines0  _) ?_) 
  rintro _ w_28 ⟨rfl, c_27⟩
  have c_29 := c_23.no c_27
  have z_30 := c_29.size
  have f_31 := f_25.no c_27
  refine K.RW.q rfl rfl (K.QR.k (v := .int .i64 0) (by kernel_rfl)) ?_
  refine K.RW.q rfl rfl (K.QR.k (v := .int .i64 0) (by kernel_rfl)) ?_
  refine K.RW.nil ?_
  refine K.thn_normal ?_
  refine K.KW.ret ?_
  refine K.thn_ret ?_
  refine ⟨.inr rfl, (.int .i64 0), K.res1 rfl rfl, ?_⟩
  exact ⟨rfl, c_29⟩

set_option maxHeartbeats 1000000 in
set_option maxRecDepth 100000 in
theorem lword (b : Nat) (c : Cfg) (n many first size at_ : Int) (w0 : World) (hc : cfgOk c) (h1 : many ≤ 65536) (h2 : 0 ≤ first ∧ first ≤ 100000) (h3 : 0 ≤ size ∧ size ≤ 8) (h4 : 0 ≤ at_ ∧ at_ ≤ 100) (hb : LayB w0 b c) :
    K.KC Try.prog 86 #[.pointer (some ⟨b, 0, none⟩), .int .i64 n, .int .i64 many, .int .i64 first, .int .i64 size, .int .i64 at_] w0 (fun v w' => v = .int .i64 (wordS c n many first size at_) ∧ K.Chg K.No w0 w') := by
  have hbd := lay_bd hc
  have hcc := hc
  unfold cfgOk at hcc
  refine K.KC.mk (n := 32) Try.func86 rfl rfl [.pointer (some ⟨b, 0, none⟩), .int .i64 n, .int .i64 many, .int .i64 first, .int .i64 size, .int .i64 at_] rfl rfl ?_
  refine K.KW.seq ?_
  -- region 0 layout.go:95
  refine K.KW.region ?_
  refine K.RW.q rfl rfl (K.QR.k (v := .int .i64 0) (by kernel_rfl)) ?_
  refine K.RW.nil ?_
  refine K.thn_normal ?_
  refine K.KW.seq ?_
  refine K.KW.seq ?_
  -- region 1 layout.go:96
  refine K.KW.region ?_
  refine K.RW.q rfl rfl (K.QR.k (v := .pointer (some ⟨b, 0, none⟩)) (by kernel_rfl)) ?_
  refine K.RW.q rfl rfl (K.QR.k (v := .bool false) (by kernel_rfl)) ?_
  refine K.RW.q rfl rfl (K.QR.k (v := .bool false) (by kernel_rfl)) ?_
  refine K.RW.q rfl (by kernel_rfl) (K.QR.k (v := .int .i64 n) (by kernel_rfl)) ?_
  refine K.RW.q rfl (by kernel_rfl) (K.QR.k (v := .int .i64 many) (by kernel_rfl)) ?_
  refine K.RW.l (by kernel_rfl) (K.OW.call rfl [.int .i64 n, .int .i64 many] rfl rfl (by kernel_rfl) (has_ok n many _) ?_) 
  rintro v_4 w_2 ⟨hv_3, c_1⟩
  have c_5 := c_1
  have z_6 := c_5.size
  rcases Bool.eq_false_or_eq_true (decide (0 ≤ (n : Int) ∧ (n : Int) < (many : Int))) with hb_7 | hb_7
  ·  -- True
    rw [hb_7] at hv_3; subst hv_3
    have hp_8 := of_decide_eq_true hb_7
    refine K.RW.q rfl (by kernel_rfl) (K.QR.k (v := .bool false) (by kernel_rfl)) ?_
    refine K.RW.q rfl rfl (K.QR.k (v := .bool false) (by kernel_rfl)) ?_
    refine K.RW.nil ?_
    refine K.thn_normal ?_
    refine K.KW.ifF rfl ?_
    refine K.KW.skip ?_
    refine K.thn_normal ?_
    refine K.KW.seq ?_
    -- region 3 layout.go:99
    have hmu := mul_bd (a := size) (b := n) (A := 8) (B := 65536) (by omega) (by omega) (by omega) (by omega)
    refine K.KW.region ?_
    refine K.RW.q rfl rfl (K.QR.k (v := .int .i64 first) (by kernel_rfl)) ?_
    refine K.RW.q rfl rfl (K.QR.k (v := .int .i64 size) (by kernel_rfl)) ?_
    refine K.RW.q rfl rfl (K.QR.k (v := .int .i64 n) (by kernel_rfl)) ?_
    refine K.RW.q rfl rfl (K.QR.n64 ((size : Int) * (n : Int)) ((size : Int) * (n : Int)) (by kernel_rfl) (by omega)) ?_
    refine K.RW.q rfl rfl (K.QR.n64 ((first : Int) + ((size : Int) * (n : Int) : Int)) ((first : Int) + ((size : Int) * (n : Int) : Int)) (by kernel_rfl) (by omega)) ?_
    refine K.RW.q rfl rfl (K.QR.n64 (((first : Int) + ((size : Int) * (n : Int) : Int) : Int) * (8 : Int)) (((first : Int) + ((size : Int) * (n : Int) : Int) : Int) * (8 : Int)) (by kernel_rfl) (by omega)) ?_
    refine K.RW.q rfl rfl (K.QR.k (v := .int .i64 at_) (by kernel_rfl)) ?_
    refine K.RW.q rfl rfl (K.QR.n64 ((((first : Int) + ((size : Int) * (n : Int) : Int) : Int) * (8 : Int) : Int) + (at_ : Int)) ((((first : Int) + ((size : Int) * (n : Int) : Int) : Int) * (8 : Int) : Int) + (at_ : Int)) (by kernel_rfl) (by omega)) ?_
    refine K.RW.q rfl rfl (K.QR.k (v := .int .i64 ((((first : Int) + ((size : Int) * (n : Int) : Int) : Int) * (8 : Int) : Int) + (at_ : Int))) (by kernel_rfl)) ?_
    refine K.RW.nil ?_
    refine K.thn_normal ?_
    refine K.KW.ret ?_
    refine ⟨.inr rfl, (.int .i64 ((((first : Int) + ((size : Int) * (n : Int) : Int) : Int) * (8 : Int) : Int) + (at_ : Int))), K.res1 rfl rfl, ?_⟩
    exact ⟨congrArg (Value.int .i64) (by first | rfl | omega | (unfold wordS; (repeat' split) <;> omega)), c_5⟩
  ·  -- False
    rw [hb_7] at hv_3; subst hv_3
    have hp_9 := of_decide_eq_false hb_7
    refine K.RW.q rfl (by kernel_rfl) (K.QR.k (v := .bool true) (by kernel_rfl)) ?_
    refine K.RW.q rfl rfl (K.QR.k (v := .bool true) (by kernel_rfl)) ?_
    refine K.RW.nil ?_
    refine K.thn_normal ?_
    refine K.KW.ifT rfl ?_
    refine K.KW.seq ?_
    -- region 2 layout.go:97
    refine K.KW.region ?_
    refine K.RW.q rfl rfl (K.QR.k (v := .pointer (some ⟨b, 0, none⟩)) (by kernel_rfl)) ?_
    refine K.RW.l rfl (K.OW.call rfl [.pointer (some ⟨b, 0, none⟩)] rfl rfl (by kernel_rfl) (lLines _ c  _ (by assumption) (hb.no c_5)) ?_) 
    rintro _ w_11 ⟨rfl, c_10⟩
    have c_12 := c_5.no c_10
    have z_13 := c_12.size
    refine K.RW.q rfl rfl (K.QR.n64 (((lns c) : Int) * (8 : Int)) (((lns c) : Int) * (8 : Int)) (by kernel_rfl) (by omega)) ?_
    refine K.RW.q rfl rfl (K.QR.k (v := .int .i64 (((lns c) : Int) * (8 : Int))) (by kernel_rfl)) ?_
    refine K.RW.nil ?_
    refine K.thn_normal ?_
    refine K.KW.ret ?_
    refine K.thn_ret ?_
    refine ⟨.inr rfl, (.int .i64 (((lns c) : Int) * (8 : Int))), K.res1 rfl rfl, ?_⟩
    exact ⟨congrArg (Value.int .i64) (by first | rfl | omega | (unfold wordS; (repeat' split) <;> omega)), c_12⟩

set_option maxHeartbeats 1000000 in
set_option maxRecDepth 100000 in
theorem lthread (b : Nat) (c : Cfg) (t at_ : Int) (w0 : World) (hc : cfgOk c) (h4 : 0 ≤ at_ ∧ at_ ≤ 100) (hb : LayB w0 b c) :
    K.KC Try.prog 85 #[.pointer (some ⟨b, 0, none⟩), .int .i64 t, .int .i64 at_] w0 (fun v w' => v = .int .i64 (threadS c t at_) ∧ K.Chg K.No w0 w') := by
  have hbd := lay_bd hc
  have hcc := hc
  unfold cfgOk at hcc
  refine K.KC.mk (n := 22) Try.func85 rfl rfl [.pointer (some ⟨b, 0, none⟩), .int .i64 t, .int .i64 at_] rfl rfl ?_
  refine K.KW.seq ?_
  -- region 0 layout.go:135
  refine K.KW.region ?_
  refine K.RW.q rfl rfl (K.QR.k (v := .int .i64 0) (by kernel_rfl)) ?_
  refine K.RW.nil ?_
  refine K.thn_normal ?_
  refine K.KW.seq ?_
  refine K.KW.seq ?_
  -- region 1 layout.go:136
  refine K.KW.region ?_
  refine K.RW.q rfl rfl (K.QR.k (v := .pointer (some ⟨b, 0, none⟩)) (by kernel_rfl)) ?_
  refine K.RW.q rfl rfl (K.QR.k (v := .bool false) (by kernel_rfl)) ?_
  refine K.RW.nil ?_
  refine K.thn_normal ?_
  refine K.KW.ifF rfl ?_
  refine K.KW.skip ?_
  refine K.thn_normal ?_
  refine K.KW.seq ?_
  -- region 3 layout.go:139
  refine K.KW.drawn (fun w => K.Chg K.No w0 w) (by kernel_rfl) ?_
  intro w_1 e_2 hs_3
  have c_5 := e_2
  have z_6 := c_5.size
  have hS_4 : (fun w => K.Chg K.No w0 w) w_1 := c_5
  refine K.DW.q 0 (by kernel_rfl) rfl rfl (by kernel_rfl) rfl (fun w hS => K.QR.k (v := .pointer (some ⟨b, 0, none⟩)) (by kernel_rfl)) hS_4 ?_
  refine K.DW.q 1 (by kernel_rfl) rfl rfl (by kernel_rfl) rfl (fun w hS => K.QR.k (v := .int .i64 t) (by kernel_rfl)) hS_4 ?_
  refine K.DW.q 2 (by kernel_rfl) rfl rfl (by kernel_rfl) rfl (fun w hS => K.QR.k (v := .pointer (some ⟨b, 0, none⟩)) (by kernel_rfl)) hS_4 ?_
  refine K.DW.q 3 (by kernel_rfl) rfl rfl (by kernel_rfl) rfl (fun w hS => K.QR.k (v := .pointer (some ⟨b, 0, none⟩)) (by kernel_rfl)) hS_4 ?_
  refine K.DW.q 4 (by kernel_rfl) rfl rfl (by kernel_rfl) rfl (fun w hS => K.QR.k (v := .pointer (some ⟨b, 0, none⟩)) (by kernel_rfl)) hS_4 ?_
  refine K.DW.q 5 (by kernel_rfl) rfl rfl (by kernel_rfl) rfl (fun w hS => K.QR.k (v := .pointer (some ⟨b, 0, none⟩)) (by kernel_rfl)) hS_4 ?_
  refine K.DW.q 6 (by kernel_rfl) rfl rfl (by kernel_rfl) rfl (fun w hS => K.QR.ld1 (v := .int .i64 c.th) rfl rfl (by kernel_rfl) (hS.cell (hb.cell rfl) id)) hS_4 ?_
  refine K.DW.q 7 (by kernel_rfl) rfl rfl (by kernel_rfl) rfl (fun w hS => K.QR.k (v := .pointer (some ⟨b, 0, none⟩)) (by kernel_rfl)) hS_4 ?_
  refine K.DW.q 8 (by kernel_rfl) rfl rfl (by kernel_rfl) rfl (fun w hS => K.QR.k (v := .pointer (some ⟨b, 0, none⟩)) (by kernel_rfl)) hS_4 ?_
  refine K.DW.q 9 (by kernel_rfl) rfl rfl (by kernel_rfl) rfl (fun w hS => K.QR.k (v := .pointer (some ⟨b, 4, none⟩)) (by kernel_rfl)) hS_4 ?_
  refine K.DW.q 10 (by kernel_rfl) rfl rfl (by kernel_rfl) rfl (fun w hS => K.QR.ld1 (v := .int .i64 (tFirst c)) rfl rfl (by kernel_rfl) (hS.cell (hb.cell rfl) id)) hS_4 ?_
  refine K.DW.q 11 (by kernel_rfl) rfl rfl (by kernel_rfl) rfl (fun w hS => K.QR.k (v := .int .i64 at_) (by kernel_rfl)) hS_4 ?_
  refine K.DW.l 12 rfl (by kernel_rfl) rfl (K.OW.call rfl [.pointer (some ⟨b, 0, none⟩), .int .i64 t, .int .i64 c.th, .int .i64 (tFirst c), .int .i64 1, .int .i64 at_] rfl rfl (by kernel_rfl) (lword _ c t c.th (tFirst c) 1 at_ _ (by assumption) (by first | omega | (have := lay_bd (by assumption); unfold cfgOk at *; omega)) (by first | omega | (have := lay_bd (by assumption); unfold cfgOk at *; omega)) (by first | omega | (have := lay_bd (by assumption); unfold cfgOk at *; omega)) (by first | omega | (have := lay_bd (by assumption); unfold cfgOk at *; omega)) (hb.no c_5)) ?_)
  rintro _ w_8 ⟨rfl, c_7⟩
  have c_9 := c_5.no c_7
  have z_10 := c_9.size
  have hS_11 : (fun w => K.Chg K.No w0 w) w_8 := c_9
  refine ⟨hS_11, ?_⟩
  refine K.DW.q 13 (by kernel_rfl) rfl rfl (by kernel_rfl) rfl (fun w hS => K.QR.k (v := .int .i64 (wordS c (t) (c.th) ((tFirst c)) (1) (at_))) (by kernel_rfl)) hS_11 ?_
  refine K.DW.done (by kernel_rfl) ?_
  refine K.thn_normal ?_
  refine K.KW.ret ?_
  refine ⟨.inr rfl, (.int .i64 (wordS c (t) (c.th) ((tFirst c)) (1) (at_))), K.res1 rfl rfl, ?_⟩
  exact ⟨congrArg (Value.int .i64) (by first | rfl | omega | (unfold threadS; (repeat' split) <;> omega)), c_9⟩

set_option maxHeartbeats 1000000 in
set_option maxRecDepth 100000 in
theorem lthread0 (t at_ : Int) (w0 : World) :
    K.KC Try.prog 85 #[.pointer none, .int .i64 t, .int .i64 at_] w0 (fun v w' => v = .int .i64 0 ∧ K.Chg K.No w0 w') := by
  refine K.KC.mk (n := 22) Try.func85 rfl rfl [.pointer none, .int .i64 t, .int .i64 at_] rfl rfl ?_
  refine K.KW.seq ?_
  -- region 0 layout.go:135
  refine K.KW.region ?_
  refine K.RW.q rfl rfl (K.QR.k (v := .int .i64 0) (by kernel_rfl)) ?_
  refine K.RW.nil ?_
  refine K.thn_normal ?_
  refine K.KW.seq ?_
  refine K.KW.seq ?_
  -- region 1 layout.go:136
  refine K.KW.region ?_
  refine K.RW.q rfl rfl (K.QR.k (v := .pointer none) (by kernel_rfl)) ?_
  refine K.RW.q rfl rfl (K.QR.k (v := .bool true) (by kernel_rfl)) ?_
  refine K.RW.nil ?_
  refine K.thn_normal ?_
  refine K.KW.ifT rfl ?_
  refine K.KW.seq ?_
  -- region 2 layout.go:137
  refine K.KW.region ?_
  refine K.RW.q rfl rfl (K.QR.k (v := .int .i64 0) (by kernel_rfl)) ?_
  refine K.RW.nil ?_
  refine K.thn_normal ?_
  refine K.KW.ret ?_
  refine K.thn_ret ?_
  refine ⟨.inr rfl, (.int .i64 0), K.res1 rfl rfl, ?_⟩
  exact ⟨rfl, (K.Chg.refl _)⟩

set_option maxHeartbeats 1000000 in
set_option maxRecDepth 100000 in
theorem lslot (b : Nat) (c : Cfg) (s at_ : Int) (w0 : World) (hc : cfgOk c) (h4 : 0 ≤ at_ ∧ at_ ≤ 100) (hb : LayB w0 b c) :
    K.KC Try.prog 87 #[.pointer (some ⟨b, 0, none⟩), .int .i64 s, .int .i64 at_] w0 (fun v w' => v = .int .i64 (slotS c s at_) ∧ K.Chg K.No w0 w') := by
  have hbd := lay_bd hc
  have hcc := hc
  unfold cfgOk at hcc
  refine K.KC.mk (n := 22) Try.func87 rfl rfl [.pointer (some ⟨b, 0, none⟩), .int .i64 s, .int .i64 at_] rfl rfl ?_
  refine K.KW.seq ?_
  -- region 0 layout.go:154
  refine K.KW.region ?_
  refine K.RW.q rfl rfl (K.QR.k (v := .int .i64 0) (by kernel_rfl)) ?_
  refine K.RW.nil ?_
  refine K.thn_normal ?_
  refine K.KW.seq ?_
  refine K.KW.seq ?_
  -- region 1 layout.go:155
  refine K.KW.region ?_
  refine K.RW.q rfl rfl (K.QR.k (v := .pointer (some ⟨b, 0, none⟩)) (by kernel_rfl)) ?_
  refine K.RW.q rfl rfl (K.QR.k (v := .bool false) (by kernel_rfl)) ?_
  refine K.RW.nil ?_
  refine K.thn_normal ?_
  refine K.KW.ifF rfl ?_
  refine K.KW.skip ?_
  refine K.thn_normal ?_
  refine K.KW.seq ?_
  -- region 3 layout.go:158
  refine K.KW.drawn (fun w => K.Chg K.No w0 w) (by kernel_rfl) ?_
  intro w_1 e_2 hs_3
  have c_5 := e_2
  have z_6 := c_5.size
  have hS_4 : (fun w => K.Chg K.No w0 w) w_1 := c_5
  refine K.DW.q 0 (by kernel_rfl) rfl rfl (by kernel_rfl) rfl (fun w hS => K.QR.k (v := .pointer (some ⟨b, 0, none⟩)) (by kernel_rfl)) hS_4 ?_
  refine K.DW.q 1 (by kernel_rfl) rfl rfl (by kernel_rfl) rfl (fun w hS => K.QR.k (v := .int .i64 s) (by kernel_rfl)) hS_4 ?_
  refine K.DW.q 2 (by kernel_rfl) rfl rfl (by kernel_rfl) rfl (fun w hS => K.QR.k (v := .pointer (some ⟨b, 0, none⟩)) (by kernel_rfl)) hS_4 ?_
  refine K.DW.q 3 (by kernel_rfl) rfl rfl (by kernel_rfl) rfl (fun w hS => K.QR.k (v := .pointer (some ⟨b, 0, none⟩)) (by kernel_rfl)) hS_4 ?_
  refine K.DW.q 4 (by kernel_rfl) rfl rfl (by kernel_rfl) rfl (fun w hS => K.QR.k (v := .pointer (some ⟨b, 0, none⟩)) (by kernel_rfl)) hS_4 ?_
  refine K.DW.q 5 (by kernel_rfl) rfl rfl (by kernel_rfl) rfl (fun w hS => K.QR.k (v := .pointer (some ⟨b, 1, none⟩)) (by kernel_rfl)) hS_4 ?_
  refine K.DW.q 6 (by kernel_rfl) rfl rfl (by kernel_rfl) rfl (fun w hS => K.QR.ld1 (v := .int .i64 c.sl) rfl rfl (by kernel_rfl) (hS.cell (hb.cell rfl) id)) hS_4 ?_
  refine K.DW.q 7 (by kernel_rfl) rfl rfl (by kernel_rfl) rfl (fun w hS => K.QR.k (v := .pointer (some ⟨b, 0, none⟩)) (by kernel_rfl)) hS_4 ?_
  refine K.DW.q 8 (by kernel_rfl) rfl rfl (by kernel_rfl) rfl (fun w hS => K.QR.k (v := .pointer (some ⟨b, 0, none⟩)) (by kernel_rfl)) hS_4 ?_
  refine K.DW.q 9 (by kernel_rfl) rfl rfl (by kernel_rfl) rfl (fun w hS => K.QR.k (v := .pointer (some ⟨b, 7, none⟩)) (by kernel_rfl)) hS_4 ?_
  refine K.DW.q 10 (by kernel_rfl) rfl rfl (by kernel_rfl) rfl (fun w hS => K.QR.ld1 (v := .int .i64 (sFirst c)) rfl rfl (by kernel_rfl) (hS.cell (hb.cell rfl) id)) hS_4 ?_
  refine K.DW.q 11 (by kernel_rfl) rfl rfl (by kernel_rfl) rfl (fun w hS => K.QR.k (v := .int .i64 at_) (by kernel_rfl)) hS_4 ?_
  refine K.DW.l 12 rfl (by kernel_rfl) rfl (K.OW.call rfl [.pointer (some ⟨b, 0, none⟩), .int .i64 s, .int .i64 c.sl, .int .i64 (sFirst c), .int .i64 1, .int .i64 at_] rfl rfl (by kernel_rfl) (lword _ c s c.sl (sFirst c) 1 at_ _ (by assumption) (by first | omega | (have := lay_bd (by assumption); unfold cfgOk at *; omega)) (by first | omega | (have := lay_bd (by assumption); unfold cfgOk at *; omega)) (by first | omega | (have := lay_bd (by assumption); unfold cfgOk at *; omega)) (by first | omega | (have := lay_bd (by assumption); unfold cfgOk at *; omega)) (hb.no c_5)) ?_)
  rintro _ w_8 ⟨rfl, c_7⟩
  have c_9 := c_5.no c_7
  have z_10 := c_9.size
  have hS_11 : (fun w => K.Chg K.No w0 w) w_8 := c_9
  refine ⟨hS_11, ?_⟩
  refine K.DW.q 13 (by kernel_rfl) rfl rfl (by kernel_rfl) rfl (fun w hS => K.QR.k (v := .int .i64 (wordS c (s) (c.sl) ((sFirst c)) (1) (at_))) (by kernel_rfl)) hS_11 ?_
  refine K.DW.done (by kernel_rfl) ?_
  refine K.thn_normal ?_
  refine K.KW.ret ?_
  refine ⟨.inr rfl, (.int .i64 (wordS c (s) (c.sl) ((sFirst c)) (1) (at_))), K.res1 rfl rfl, ?_⟩
  exact ⟨congrArg (Value.int .i64) (by first | rfl | omega | (unfold slotS; (repeat' split) <;> omega)), c_9⟩

set_option maxHeartbeats 1000000 in
set_option maxRecDepth 100000 in
theorem lslot0 (s at_ : Int) (w0 : World) :
    K.KC Try.prog 87 #[.pointer none, .int .i64 s, .int .i64 at_] w0 (fun v w' => v = .int .i64 0 ∧ K.Chg K.No w0 w') := by
  refine K.KC.mk (n := 22) Try.func87 rfl rfl [.pointer none, .int .i64 s, .int .i64 at_] rfl rfl ?_
  refine K.KW.seq ?_
  -- region 0 layout.go:154
  refine K.KW.region ?_
  refine K.RW.q rfl rfl (K.QR.k (v := .int .i64 0) (by kernel_rfl)) ?_
  refine K.RW.nil ?_
  refine K.thn_normal ?_
  refine K.KW.seq ?_
  refine K.KW.seq ?_
  -- region 1 layout.go:155
  refine K.KW.region ?_
  refine K.RW.q rfl rfl (K.QR.k (v := .pointer none) (by kernel_rfl)) ?_
  refine K.RW.q rfl rfl (K.QR.k (v := .bool true) (by kernel_rfl)) ?_
  refine K.RW.nil ?_
  refine K.thn_normal ?_
  refine K.KW.ifT rfl ?_
  refine K.KW.seq ?_
  -- region 2 layout.go:156
  refine K.KW.region ?_
  refine K.RW.q rfl rfl (K.QR.k (v := .int .i64 0) (by kernel_rfl)) ?_
  refine K.RW.nil ?_
  refine K.thn_normal ?_
  refine K.KW.ret ?_
  refine K.thn_ret ?_
  refine ⟨.inr rfl, (.int .i64 0), K.res1 rfl rfl, ?_⟩
  exact ⟨rfl, (K.Chg.refl _)⟩

set_option maxHeartbeats 1000000 in
set_option maxRecDepth 100000 in
theorem lCell (b : Nat) (c : Cfg) (t : Int) (w0 : World) (hc : cfgOk c) (hb : LayB w0 b c) :
    K.KC Try.prog 61 #[.pointer (some ⟨b, 0, none⟩), .int .i64 t] w0 (fun v w' => v = .int .i64 (threadS c t 0) ∧ K.Chg K.No w0 w') := by
  have hbd := lay_bd hc
  have hcc := hc
  unfold cfgOk at hcc
  refine K.KC.mk (n := 8) Try.func61 rfl rfl [.pointer (some ⟨b, 0, none⟩), .int .i64 t] rfl rfl ?_
  refine K.KW.seq ?_
  -- region 0 layout.go:129
  refine K.KW.region ?_
  refine K.RW.q rfl rfl (K.QR.k (v := .int .i64 0) (by kernel_rfl)) ?_
  refine K.RW.nil ?_
  refine K.thn_normal ?_
  refine K.KW.seq ?_
  -- region 1 layout.go:129
  refine K.KW.region ?_
  refine K.RW.q rfl rfl (K.QR.k (v := .pointer (some ⟨b, 0, none⟩)) (by kernel_rfl)) ?_
  refine K.RW.q rfl rfl (K.QR.k (v := .int .i64 t) (by kernel_rfl)) ?_
  refine K.RW.l rfl (K.OW.call rfl [.pointer (some ⟨b, 0, none⟩), .int .i64 t, .int .i64 0] rfl rfl (by kernel_rfl) (lthread _ c t 0 _ (by assumption) (by first | omega | (have := lay_bd (by assumption); unfold cfgOk at *; omega)) hb) ?_) 
  rintro _ w_2 ⟨rfl, c_1⟩
  have c_3 := c_1
  have z_4 := c_3.size
  refine K.RW.q rfl rfl (K.QR.k (v := .int .i64 (threadS c (t) (0))) (by kernel_rfl)) ?_
  refine K.RW.nil ?_
  refine K.thn_normal ?_
  refine K.KW.ret ?_
  refine ⟨.inr rfl, (.int .i64 (threadS c (t) (0))), K.res1 rfl rfl, ?_⟩
  exact ⟨congrArg (Value.int .i64) (by first | rfl | omega | (unfold threadS; (repeat' split) <;> omega)), c_3⟩

set_option maxHeartbeats 1000000 in
set_option maxRecDepth 100000 in
theorem lCell0 (t : Int) (w0 : World) :
    K.KC Try.prog 61 #[.pointer none, .int .i64 t] w0 (fun v w' => v = .int .i64 0 ∧ K.Chg K.No w0 w') := by
  refine K.KC.mk (n := 8) Try.func61 rfl rfl [.pointer none, .int .i64 t] rfl rfl ?_
  refine K.KW.seq ?_
  -- region 0 layout.go:129
  refine K.KW.region ?_
  refine K.RW.q rfl rfl (K.QR.k (v := .int .i64 0) (by kernel_rfl)) ?_
  refine K.RW.nil ?_
  refine K.thn_normal ?_
  refine K.KW.seq ?_
  -- region 1 layout.go:129
  refine K.KW.region ?_
  refine K.RW.q rfl rfl (K.QR.k (v := .pointer none) (by kernel_rfl)) ?_
  refine K.RW.q rfl rfl (K.QR.k (v := .int .i64 t) (by kernel_rfl)) ?_
  refine K.RW.l rfl (K.OW.call rfl [.pointer none, .int .i64 t, .int .i64 0] rfl rfl (by kernel_rfl) (lthread0 t 0 _) ?_) 
  rintro _ w_2 ⟨rfl, c_1⟩
  have c_3 := c_1
  have z_4 := c_3.size
  refine K.RW.q rfl rfl (K.QR.k (v := .int .i64 0) (by kernel_rfl)) ?_
  refine K.RW.nil ?_
  refine K.thn_normal ?_
  refine K.KW.ret ?_
  refine ⟨.inr rfl, (.int .i64 0), K.res1 rfl rfl, ?_⟩
  exact ⟨rfl, c_3⟩

set_option maxHeartbeats 1000000 in
set_option maxRecDepth 100000 in
theorem lIntent (b : Nat) (c : Cfg) (t : Int) (w0 : World) (hc : cfgOk c) (hb : LayB w0 b c) :
    K.KC Try.prog 71 #[.pointer (some ⟨b, 0, none⟩), .int .i64 t] w0 (fun v w' => v = .int .i64 (threadS c t 1) ∧ K.Chg K.No w0 w') := by
  have hbd := lay_bd hc
  have hcc := hc
  unfold cfgOk at hcc
  refine K.KC.mk (n := 8) Try.func71 rfl rfl [.pointer (some ⟨b, 0, none⟩), .int .i64 t] rfl rfl ?_
  refine K.KW.seq ?_
  -- region 0 layout.go:132
  refine K.KW.region ?_
  refine K.RW.q rfl rfl (K.QR.k (v := .int .i64 0) (by kernel_rfl)) ?_
  refine K.RW.nil ?_
  refine K.thn_normal ?_
  refine K.KW.seq ?_
  -- region 1 layout.go:132
  refine K.KW.region ?_
  refine K.RW.q rfl rfl (K.QR.k (v := .pointer (some ⟨b, 0, none⟩)) (by kernel_rfl)) ?_
  refine K.RW.q rfl rfl (K.QR.k (v := .int .i64 t) (by kernel_rfl)) ?_
  refine K.RW.l rfl (K.OW.call rfl [.pointer (some ⟨b, 0, none⟩), .int .i64 t, .int .i64 1] rfl rfl (by kernel_rfl) (lthread _ c t 1 _ (by assumption) (by first | omega | (have := lay_bd (by assumption); unfold cfgOk at *; omega)) hb) ?_) 
  rintro _ w_2 ⟨rfl, c_1⟩
  have c_3 := c_1
  have z_4 := c_3.size
  refine K.RW.q rfl rfl (K.QR.k (v := .int .i64 (threadS c (t) (1))) (by kernel_rfl)) ?_
  refine K.RW.nil ?_
  refine K.thn_normal ?_
  refine K.KW.ret ?_
  refine ⟨.inr rfl, (.int .i64 (threadS c (t) (1))), K.res1 rfl rfl, ?_⟩
  exact ⟨congrArg (Value.int .i64) (by first | rfl | omega | (unfold threadS; (repeat' split) <;> omega)), c_3⟩

set_option maxHeartbeats 1000000 in
set_option maxRecDepth 100000 in
theorem lIntent0 (t : Int) (w0 : World) :
    K.KC Try.prog 71 #[.pointer none, .int .i64 t] w0 (fun v w' => v = .int .i64 0 ∧ K.Chg K.No w0 w') := by
  refine K.KC.mk (n := 8) Try.func71 rfl rfl [.pointer none, .int .i64 t] rfl rfl ?_
  refine K.KW.seq ?_
  -- region 0 layout.go:132
  refine K.KW.region ?_
  refine K.RW.q rfl rfl (K.QR.k (v := .int .i64 0) (by kernel_rfl)) ?_
  refine K.RW.nil ?_
  refine K.thn_normal ?_
  refine K.KW.seq ?_
  -- region 1 layout.go:132
  refine K.KW.region ?_
  refine K.RW.q rfl rfl (K.QR.k (v := .pointer none) (by kernel_rfl)) ?_
  refine K.RW.q rfl rfl (K.QR.k (v := .int .i64 t) (by kernel_rfl)) ?_
  refine K.RW.l rfl (K.OW.call rfl [.pointer none, .int .i64 t, .int .i64 1] rfl rfl (by kernel_rfl) (lthread0 t 1 _) ?_) 
  rintro _ w_2 ⟨rfl, c_1⟩
  have c_3 := c_1
  have z_4 := c_3.size
  refine K.RW.q rfl rfl (K.QR.k (v := .int .i64 0) (by kernel_rfl)) ?_
  refine K.RW.nil ?_
  refine K.thn_normal ?_
  refine K.KW.ret ?_
  refine ⟨.inr rfl, (.int .i64 0), K.res1 rfl rfl, ?_⟩
  exact ⟨rfl, c_3⟩

set_option maxHeartbeats 1000000 in
set_option maxRecDepth 100000 in
theorem lGen (b : Nat) (c : Cfg) (s : Int) (w0 : World) (hc : cfgOk c) (hb : LayB w0 b c) :
    K.KC Try.prog 63 #[.pointer (some ⟨b, 0, none⟩), .int .i64 s] w0 (fun v w' => v = .int .i64 (slotS c s 0) ∧ K.Chg K.No w0 w') := by
  have hbd := lay_bd hc
  have hcc := hc
  unfold cfgOk at hcc
  refine K.KC.mk (n := 8) Try.func63 rfl rfl [.pointer (some ⟨b, 0, none⟩), .int .i64 s] rfl rfl ?_
  refine K.KW.seq ?_
  -- region 0 layout.go:162
  refine K.KW.region ?_
  refine K.RW.q rfl rfl (K.QR.k (v := .int .i64 0) (by kernel_rfl)) ?_
  refine K.RW.nil ?_
  refine K.thn_normal ?_
  refine K.KW.seq ?_
  -- region 1 layout.go:162
  refine K.KW.region ?_
  refine K.RW.q rfl rfl (K.QR.k (v := .pointer (some ⟨b, 0, none⟩)) (by kernel_rfl)) ?_
  refine K.RW.q rfl rfl (K.QR.k (v := .int .i64 s) (by kernel_rfl)) ?_
  refine K.RW.l rfl (K.OW.call rfl [.pointer (some ⟨b, 0, none⟩), .int .i64 s, .int .i64 0] rfl rfl (by kernel_rfl) (lslot _ c s 0 _ (by assumption) (by first | omega | (have := lay_bd (by assumption); unfold cfgOk at *; omega)) hb) ?_) 
  rintro _ w_2 ⟨rfl, c_1⟩
  have c_3 := c_1
  have z_4 := c_3.size
  refine K.RW.q rfl rfl (K.QR.k (v := .int .i64 (slotS c (s) (0))) (by kernel_rfl)) ?_
  refine K.RW.nil ?_
  refine K.thn_normal ?_
  refine K.KW.ret ?_
  refine ⟨.inr rfl, (.int .i64 (slotS c (s) (0))), K.res1 rfl rfl, ?_⟩
  exact ⟨congrArg (Value.int .i64) (by first | rfl | omega | (unfold slotS; (repeat' split) <;> omega)), c_3⟩

set_option maxHeartbeats 1000000 in
set_option maxRecDepth 100000 in
theorem lGen0 (s : Int) (w0 : World) :
    K.KC Try.prog 63 #[.pointer none, .int .i64 s] w0 (fun v w' => v = .int .i64 0 ∧ K.Chg K.No w0 w') := by
  refine K.KC.mk (n := 8) Try.func63 rfl rfl [.pointer none, .int .i64 s] rfl rfl ?_
  refine K.KW.seq ?_
  -- region 0 layout.go:162
  refine K.KW.region ?_
  refine K.RW.q rfl rfl (K.QR.k (v := .int .i64 0) (by kernel_rfl)) ?_
  refine K.RW.nil ?_
  refine K.thn_normal ?_
  refine K.KW.seq ?_
  -- region 1 layout.go:162
  refine K.KW.region ?_
  refine K.RW.q rfl rfl (K.QR.k (v := .pointer none) (by kernel_rfl)) ?_
  refine K.RW.q rfl rfl (K.QR.k (v := .int .i64 s) (by kernel_rfl)) ?_
  refine K.RW.l rfl (K.OW.call rfl [.pointer none, .int .i64 s, .int .i64 0] rfl rfl (by kernel_rfl) (lslot0 s 0 _) ?_) 
  rintro _ w_2 ⟨rfl, c_1⟩
  have c_3 := c_1
  have z_4 := c_3.size
  refine K.RW.q rfl rfl (K.QR.k (v := .int .i64 0) (by kernel_rfl)) ?_
  refine K.RW.nil ?_
  refine K.thn_normal ?_
  refine K.KW.ret ?_
  refine ⟨.inr rfl, (.int .i64 0), K.res1 rfl rfl, ?_⟩
  exact ⟨rfl, c_3⟩

set_option maxHeartbeats 1000000 in
set_option maxRecDepth 100000 in
theorem lKey (b : Nat) (c : Cfg) (s : Int) (w0 : World) (hc : cfgOk c) (hb : LayB w0 b c) :
    K.KC Try.prog 72 #[.pointer (some ⟨b, 0, none⟩), .int .i64 s] w0 (fun v w' => v = .int .i64 (slotS c s 1) ∧ K.Chg K.No w0 w') := by
  have hbd := lay_bd hc
  have hcc := hc
  unfold cfgOk at hcc
  refine K.KC.mk (n := 8) Try.func72 rfl rfl [.pointer (some ⟨b, 0, none⟩), .int .i64 s] rfl rfl ?_
  refine K.KW.seq ?_
  -- region 0 layout.go:165
  refine K.KW.region ?_
  refine K.RW.q rfl rfl (K.QR.k (v := .int .i64 0) (by kernel_rfl)) ?_
  refine K.RW.nil ?_
  refine K.thn_normal ?_
  refine K.KW.seq ?_
  -- region 1 layout.go:165
  refine K.KW.region ?_
  refine K.RW.q rfl rfl (K.QR.k (v := .pointer (some ⟨b, 0, none⟩)) (by kernel_rfl)) ?_
  refine K.RW.q rfl rfl (K.QR.k (v := .int .i64 s) (by kernel_rfl)) ?_
  refine K.RW.l rfl (K.OW.call rfl [.pointer (some ⟨b, 0, none⟩), .int .i64 s, .int .i64 1] rfl rfl (by kernel_rfl) (lslot _ c s 1 _ (by assumption) (by first | omega | (have := lay_bd (by assumption); unfold cfgOk at *; omega)) hb) ?_) 
  rintro _ w_2 ⟨rfl, c_1⟩
  have c_3 := c_1
  have z_4 := c_3.size
  refine K.RW.q rfl rfl (K.QR.k (v := .int .i64 (slotS c (s) (1))) (by kernel_rfl)) ?_
  refine K.RW.nil ?_
  refine K.thn_normal ?_
  refine K.KW.ret ?_
  refine ⟨.inr rfl, (.int .i64 (slotS c (s) (1))), K.res1 rfl rfl, ?_⟩
  exact ⟨congrArg (Value.int .i64) (by first | rfl | omega | (unfold slotS; (repeat' split) <;> omega)), c_3⟩

set_option maxHeartbeats 1000000 in
set_option maxRecDepth 100000 in
theorem lKey0 (s : Int) (w0 : World) :
    K.KC Try.prog 72 #[.pointer none, .int .i64 s] w0 (fun v w' => v = .int .i64 0 ∧ K.Chg K.No w0 w') := by
  refine K.KC.mk (n := 8) Try.func72 rfl rfl [.pointer none, .int .i64 s] rfl rfl ?_
  refine K.KW.seq ?_
  -- region 0 layout.go:165
  refine K.KW.region ?_
  refine K.RW.q rfl rfl (K.QR.k (v := .int .i64 0) (by kernel_rfl)) ?_
  refine K.RW.nil ?_
  refine K.thn_normal ?_
  refine K.KW.seq ?_
  -- region 1 layout.go:165
  refine K.KW.region ?_
  refine K.RW.q rfl rfl (K.QR.k (v := .pointer none) (by kernel_rfl)) ?_
  refine K.RW.q rfl rfl (K.QR.k (v := .int .i64 s) (by kernel_rfl)) ?_
  refine K.RW.l rfl (K.OW.call rfl [.pointer none, .int .i64 s, .int .i64 1] rfl rfl (by kernel_rfl) (lslot0 s 1 _) ?_) 
  rintro _ w_2 ⟨rfl, c_1⟩
  have c_3 := c_1
  have z_4 := c_3.size
  refine K.RW.q rfl rfl (K.QR.k (v := .int .i64 0) (by kernel_rfl)) ?_
  refine K.RW.nil ?_
  refine K.thn_normal ?_
  refine K.KW.ret ?_
  refine ⟨.inr rfl, (.int .i64 0), K.res1 rfl rfl, ?_⟩
  exact ⟨rfl, c_3⟩

set_option maxHeartbeats 1000000 in
set_option maxRecDepth 100000 in
theorem lVal (b : Nat) (c : Cfg) (s : Int) (w0 : World) (hc : cfgOk c) (hb : LayB w0 b c) :
    K.KC Try.prog 73 #[.pointer (some ⟨b, 0, none⟩), .int .i64 s] w0 (fun v w' => v = .int .i64 (slotS c s 2) ∧ K.Chg K.No w0 w') := by
  have hbd := lay_bd hc
  have hcc := hc
  unfold cfgOk at hcc
  refine K.KC.mk (n := 8) Try.func73 rfl rfl [.pointer (some ⟨b, 0, none⟩), .int .i64 s] rfl rfl ?_
  refine K.KW.seq ?_
  -- region 0 layout.go:168
  refine K.KW.region ?_
  refine K.RW.q rfl rfl (K.QR.k (v := .int .i64 0) (by kernel_rfl)) ?_
  refine K.RW.nil ?_
  refine K.thn_normal ?_
  refine K.KW.seq ?_
  -- region 1 layout.go:168
  refine K.KW.region ?_
  refine K.RW.q rfl rfl (K.QR.k (v := .pointer (some ⟨b, 0, none⟩)) (by kernel_rfl)) ?_
  refine K.RW.q rfl rfl (K.QR.k (v := .int .i64 s) (by kernel_rfl)) ?_
  refine K.RW.l rfl (K.OW.call rfl [.pointer (some ⟨b, 0, none⟩), .int .i64 s, .int .i64 2] rfl rfl (by kernel_rfl) (lslot _ c s 2 _ (by assumption) (by first | omega | (have := lay_bd (by assumption); unfold cfgOk at *; omega)) hb) ?_) 
  rintro _ w_2 ⟨rfl, c_1⟩
  have c_3 := c_1
  have z_4 := c_3.size
  refine K.RW.q rfl rfl (K.QR.k (v := .int .i64 (slotS c (s) (2))) (by kernel_rfl)) ?_
  refine K.RW.nil ?_
  refine K.thn_normal ?_
  refine K.KW.ret ?_
  refine ⟨.inr rfl, (.int .i64 (slotS c (s) (2))), K.res1 rfl rfl, ?_⟩
  exact ⟨congrArg (Value.int .i64) (by first | rfl | omega | (unfold slotS; (repeat' split) <;> omega)), c_3⟩

set_option maxHeartbeats 1000000 in
set_option maxRecDepth 100000 in
theorem lVal0 (s : Int) (w0 : World) :
    K.KC Try.prog 73 #[.pointer none, .int .i64 s] w0 (fun v w' => v = .int .i64 0 ∧ K.Chg K.No w0 w') := by
  refine K.KC.mk (n := 8) Try.func73 rfl rfl [.pointer none, .int .i64 s] rfl rfl ?_
  refine K.KW.seq ?_
  -- region 0 layout.go:168
  refine K.KW.region ?_
  refine K.RW.q rfl rfl (K.QR.k (v := .int .i64 0) (by kernel_rfl)) ?_
  refine K.RW.nil ?_
  refine K.thn_normal ?_
  refine K.KW.seq ?_
  -- region 1 layout.go:168
  refine K.KW.region ?_
  refine K.RW.q rfl rfl (K.QR.k (v := .pointer none) (by kernel_rfl)) ?_
  refine K.RW.q rfl rfl (K.QR.k (v := .int .i64 s) (by kernel_rfl)) ?_
  refine K.RW.l rfl (K.OW.call rfl [.pointer none, .int .i64 s, .int .i64 2] rfl rfl (by kernel_rfl) (lslot0 s 2 _) ?_) 
  rintro _ w_2 ⟨rfl, c_1⟩
  have c_3 := c_1
  have z_4 := c_3.size
  refine K.RW.q rfl rfl (K.QR.k (v := .int .i64 0) (by kernel_rfl)) ?_
  refine K.RW.nil ?_
  refine K.thn_normal ?_
  refine K.KW.ret ?_
  refine ⟨.inr rfl, (.int .i64 0), K.res1 rfl rfl, ?_⟩
  exact ⟨rfl, c_3⟩

set_option maxHeartbeats 1000000 in
set_option maxRecDepth 100000 in
theorem lNext (b : Nat) (c : Cfg) (s : Int) (w0 : World) (hc : cfgOk c) (hb : LayB w0 b c) :
    K.KC Try.prog 74 #[.pointer (some ⟨b, 0, none⟩), .int .i64 s] w0 (fun v w' => v = .int .i64 (slotS c s 3) ∧ K.Chg K.No w0 w') := by
  have hbd := lay_bd hc
  have hcc := hc
  unfold cfgOk at hcc
  refine K.KC.mk (n := 8) Try.func74 rfl rfl [.pointer (some ⟨b, 0, none⟩), .int .i64 s] rfl rfl ?_
  refine K.KW.seq ?_
  -- region 0 layout.go:171
  refine K.KW.region ?_
  refine K.RW.q rfl rfl (K.QR.k (v := .int .i64 0) (by kernel_rfl)) ?_
  refine K.RW.nil ?_
  refine K.thn_normal ?_
  refine K.KW.seq ?_
  -- region 1 layout.go:171
  refine K.KW.region ?_
  refine K.RW.q rfl rfl (K.QR.k (v := .pointer (some ⟨b, 0, none⟩)) (by kernel_rfl)) ?_
  refine K.RW.q rfl rfl (K.QR.k (v := .int .i64 s) (by kernel_rfl)) ?_
  refine K.RW.l rfl (K.OW.call rfl [.pointer (some ⟨b, 0, none⟩), .int .i64 s, .int .i64 3] rfl rfl (by kernel_rfl) (lslot _ c s 3 _ (by assumption) (by first | omega | (have := lay_bd (by assumption); unfold cfgOk at *; omega)) hb) ?_) 
  rintro _ w_2 ⟨rfl, c_1⟩
  have c_3 := c_1
  have z_4 := c_3.size
  refine K.RW.q rfl rfl (K.QR.k (v := .int .i64 (slotS c (s) (3))) (by kernel_rfl)) ?_
  refine K.RW.nil ?_
  refine K.thn_normal ?_
  refine K.KW.ret ?_
  refine ⟨.inr rfl, (.int .i64 (slotS c (s) (3))), K.res1 rfl rfl, ?_⟩
  exact ⟨congrArg (Value.int .i64) (by first | rfl | omega | (unfold slotS; (repeat' split) <;> omega)), c_3⟩

set_option maxHeartbeats 1000000 in
set_option maxRecDepth 100000 in
theorem lNext0 (s : Int) (w0 : World) :
    K.KC Try.prog 74 #[.pointer none, .int .i64 s] w0 (fun v w' => v = .int .i64 0 ∧ K.Chg K.No w0 w') := by
  refine K.KC.mk (n := 8) Try.func74 rfl rfl [.pointer none, .int .i64 s] rfl rfl ?_
  refine K.KW.seq ?_
  -- region 0 layout.go:171
  refine K.KW.region ?_
  refine K.RW.q rfl rfl (K.QR.k (v := .int .i64 0) (by kernel_rfl)) ?_
  refine K.RW.nil ?_
  refine K.thn_normal ?_
  refine K.KW.seq ?_
  -- region 1 layout.go:171
  refine K.KW.region ?_
  refine K.RW.q rfl rfl (K.QR.k (v := .pointer none) (by kernel_rfl)) ?_
  refine K.RW.q rfl rfl (K.QR.k (v := .int .i64 s) (by kernel_rfl)) ?_
  refine K.RW.l rfl (K.OW.call rfl [.pointer none, .int .i64 s, .int .i64 3] rfl rfl (by kernel_rfl) (lslot0 s 3 _) ?_) 
  rintro _ w_2 ⟨rfl, c_1⟩
  have c_3 := c_1
  have z_4 := c_3.size
  refine K.RW.q rfl rfl (K.QR.k (v := .int .i64 0) (by kernel_rfl)) ?_
  refine K.RW.nil ?_
  refine K.thn_normal ?_
  refine K.KW.ret ?_
  refine ⟨.inr rfl, (.int .i64 0), K.res1 rfl rfl, ?_⟩
  exact ⟨rfl, c_3⟩

set_option maxHeartbeats 1000000 in
set_option maxRecDepth 100000 in
theorem lTag (b : Nat) (c : Cfg) (s : Int) (w0 : World) (hc : cfgOk c) (hb : LayB w0 b c) :
    K.KC Try.prog 75 #[.pointer (some ⟨b, 0, none⟩), .int .i64 s] w0 (fun v w' => v = .int .i64 (slotS c s 4) ∧ K.Chg K.No w0 w') := by
  have hbd := lay_bd hc
  have hcc := hc
  unfold cfgOk at hcc
  refine K.KC.mk (n := 8) Try.func75 rfl rfl [.pointer (some ⟨b, 0, none⟩), .int .i64 s] rfl rfl ?_
  refine K.KW.seq ?_
  -- region 0 layout.go:174
  refine K.KW.region ?_
  refine K.RW.q rfl rfl (K.QR.k (v := .int .i64 0) (by kernel_rfl)) ?_
  refine K.RW.nil ?_
  refine K.thn_normal ?_
  refine K.KW.seq ?_
  -- region 1 layout.go:174
  refine K.KW.region ?_
  refine K.RW.q rfl rfl (K.QR.k (v := .pointer (some ⟨b, 0, none⟩)) (by kernel_rfl)) ?_
  refine K.RW.q rfl rfl (K.QR.k (v := .int .i64 s) (by kernel_rfl)) ?_
  refine K.RW.l rfl (K.OW.call rfl [.pointer (some ⟨b, 0, none⟩), .int .i64 s, .int .i64 4] rfl rfl (by kernel_rfl) (lslot _ c s 4 _ (by assumption) (by first | omega | (have := lay_bd (by assumption); unfold cfgOk at *; omega)) hb) ?_) 
  rintro _ w_2 ⟨rfl, c_1⟩
  have c_3 := c_1
  have z_4 := c_3.size
  refine K.RW.q rfl rfl (K.QR.k (v := .int .i64 (slotS c (s) (4))) (by kernel_rfl)) ?_
  refine K.RW.nil ?_
  refine K.thn_normal ?_
  refine K.KW.ret ?_
  refine ⟨.inr rfl, (.int .i64 (slotS c (s) (4))), K.res1 rfl rfl, ?_⟩
  exact ⟨congrArg (Value.int .i64) (by first | rfl | omega | (unfold slotS; (repeat' split) <;> omega)), c_3⟩

set_option maxHeartbeats 1000000 in
set_option maxRecDepth 100000 in
theorem lTag0 (s : Int) (w0 : World) :
    K.KC Try.prog 75 #[.pointer none, .int .i64 s] w0 (fun v w' => v = .int .i64 0 ∧ K.Chg K.No w0 w') := by
  refine K.KC.mk (n := 8) Try.func75 rfl rfl [.pointer none, .int .i64 s] rfl rfl ?_
  refine K.KW.seq ?_
  -- region 0 layout.go:174
  refine K.KW.region ?_
  refine K.RW.q rfl rfl (K.QR.k (v := .int .i64 0) (by kernel_rfl)) ?_
  refine K.RW.nil ?_
  refine K.thn_normal ?_
  refine K.KW.seq ?_
  -- region 1 layout.go:174
  refine K.KW.region ?_
  refine K.RW.q rfl rfl (K.QR.k (v := .pointer none) (by kernel_rfl)) ?_
  refine K.RW.q rfl rfl (K.QR.k (v := .int .i64 s) (by kernel_rfl)) ?_
  refine K.RW.l rfl (K.OW.call rfl [.pointer none, .int .i64 s, .int .i64 4] rfl rfl (by kernel_rfl) (lslot0 s 4 _) ?_) 
  rintro _ w_2 ⟨rfl, c_1⟩
  have c_3 := c_1
  have z_4 := c_3.size
  refine K.RW.q rfl rfl (K.QR.k (v := .int .i64 0) (by kernel_rfl)) ?_
  refine K.RW.nil ?_
  refine K.thn_normal ?_
  refine K.KW.ret ?_
  refine ⟨.inr rfl, (.int .i64 0), K.res1 rfl rfl, ?_⟩
  exact ⟨rfl, c_3⟩

set_option maxHeartbeats 1000000 in
set_option maxRecDepth 100000 in
theorem lLog (b : Nat) (c : Cfg) (t n : Int) (w0 : World) (hc : cfgOk c) (hb : LayB w0 b c) :
    K.KC Try.prog 62 #[.pointer (some ⟨b, 0, none⟩), .int .i64 t, .int .i64 n] w0 (fun v w' => v = .int .i64 (logS c t n) ∧ K.Chg K.No w0 w') := by
  have hbd := lay_bd hc
  have hcc := hc
  unfold cfgOk at hcc
  refine K.KC.mk (n := 37) Try.func62 rfl rfl [.pointer (some ⟨b, 0, none⟩), .int .i64 t, .int .i64 n] rfl rfl ?_
  refine K.KW.seq ?_
  -- region 0 layout.go:143
  refine K.KW.region ?_
  refine K.RW.q rfl rfl (K.QR.k (v := .int .i64 0) (by kernel_rfl)) ?_
  refine K.RW.nil ?_
  refine K.thn_normal ?_
  refine K.KW.seq ?_
  refine K.KW.seq ?_
  -- region 1 layout.go:144
  refine K.KW.region ?_
  refine K.RW.q rfl rfl (K.QR.k (v := .pointer (some ⟨b, 0, none⟩)) (by kernel_rfl)) ?_
  refine K.RW.q rfl rfl (K.QR.k (v := .bool false) (by kernel_rfl)) ?_
  refine K.RW.nil ?_
  refine K.thn_normal ?_
  refine K.KW.ifF rfl ?_
  refine K.KW.skip ?_
  refine K.thn_normal ?_
  refine K.KW.seq ?_
  refine K.KW.seq ?_
  -- region 3 layout.go:147
  refine K.KW.region ?_
  refine K.RW.q rfl rfl (K.QR.k (v := .int .i64 n) (by kernel_rfl)) ?_
  refine K.RW.q rfl rfl (K.QR.k (v := .pointer (some ⟨b, 0, none⟩)) (by kernel_rfl)) ?_
  refine K.RW.q rfl rfl (K.QR.k (v := .pointer (some ⟨b, 0, none⟩)) (by kernel_rfl)) ?_
  refine K.RW.q rfl rfl (K.QR.k (v := .pointer (some ⟨b, 0, none⟩)) (by kernel_rfl)) ?_
  refine K.RW.q rfl rfl (K.QR.k (v := .pointer (some ⟨b, 2, none⟩)) (by kernel_rfl)) ?_
  refine K.RW.q rfl rfl (K.QR.ld1 (v := .int .i64 c.lo) rfl rfl (by kernel_rfl) (hb.cell rfl)) ?_
  refine K.RW.l rfl (K.OW.call rfl [.int .i64 n, .int .i64 c.lo] rfl rfl (by kernel_rfl) (has_ok n c.lo _) ?_) 
  rintro v_4 w_2 ⟨hv_3, c_1⟩
  have c_5 := c_1
  have z_6 := c_5.size
  rcases Bool.eq_false_or_eq_true (decide (0 ≤ (n : Int) ∧ (n : Int) < (c.lo : Int))) with hb_7 | hb_7
  ·  -- True
    rw [hb_7] at hv_3; subst hv_3
    have hp_8 := of_decide_eq_true hb_7
    refine K.RW.q rfl rfl (K.QR.k (v := .bool false) (by kernel_rfl)) ?_
    refine K.RW.nil ?_
    refine K.thn_normal ?_
    refine K.KW.ifF rfl ?_
    refine K.KW.skip ?_
    refine K.thn_normal ?_
    refine K.KW.seq ?_
    -- region 5 layout.go:150
    refine K.KW.drawn (fun w => K.Chg K.No w0 w) (by kernel_rfl) ?_
    intro w_9 e_10 hs_11
    have c_13 := c_5.no e_10
    have z_14 := c_13.size
    have hS_12 : (fun w => K.Chg K.No w0 w) w_9 := c_13
    refine K.DW.q 0 (by kernel_rfl) rfl rfl (by kernel_rfl) rfl (fun w hS => K.QR.k (v := .pointer (some ⟨b, 0, none⟩)) (by kernel_rfl)) hS_12 ?_
    refine K.DW.q 1 (by kernel_rfl) rfl rfl (by kernel_rfl) rfl (fun w hS => K.QR.k (v := .int .i64 t) (by kernel_rfl)) hS_12 ?_
    refine K.DW.q 2 (by kernel_rfl) rfl rfl (by kernel_rfl) rfl (fun w hS => K.QR.k (v := .pointer (some ⟨b, 0, none⟩)) (by kernel_rfl)) hS_12 ?_
    refine K.DW.q 3 (by kernel_rfl) rfl rfl (by kernel_rfl) rfl (fun w hS => K.QR.k (v := .pointer (some ⟨b, 0, none⟩)) (by kernel_rfl)) hS_12 ?_
    refine K.DW.q 4 (by kernel_rfl) rfl rfl (by kernel_rfl) rfl (fun w hS => K.QR.k (v := .pointer (some ⟨b, 0, none⟩)) (by kernel_rfl)) hS_12 ?_
    refine K.DW.q 5 (by kernel_rfl) rfl rfl (by kernel_rfl) rfl (fun w hS => K.QR.k (v := .pointer (some ⟨b, 0, none⟩)) (by kernel_rfl)) hS_12 ?_
    refine K.DW.q 6 (by kernel_rfl) rfl rfl (by kernel_rfl) rfl (fun w hS => K.QR.ld1 (v := .int .i64 c.th) rfl rfl (by kernel_rfl) (hS.cell (hb.cell rfl) id)) hS_12 ?_
    refine K.DW.q 7 (by kernel_rfl) rfl rfl (by kernel_rfl) rfl (fun w hS => K.QR.k (v := .pointer (some ⟨b, 0, none⟩)) (by kernel_rfl)) hS_12 ?_
    refine K.DW.q 8 (by kernel_rfl) rfl rfl (by kernel_rfl) rfl (fun w hS => K.QR.k (v := .pointer (some ⟨b, 0, none⟩)) (by kernel_rfl)) hS_12 ?_
    refine K.DW.q 9 (by kernel_rfl) rfl rfl (by kernel_rfl) rfl (fun w hS => K.QR.k (v := .pointer (some ⟨b, 5, none⟩)) (by kernel_rfl)) hS_12 ?_
    refine K.DW.q 10 (by kernel_rfl) rfl rfl (by kernel_rfl) rfl (fun w hS => K.QR.ld1 (v := .int .i64 (lFirst c)) rfl rfl (by kernel_rfl) (hS.cell (hb.cell rfl) id)) hS_12 ?_
    refine K.DW.q 11 (by kernel_rfl) rfl rfl (by kernel_rfl) rfl (fun w hS => K.QR.k (v := .pointer (some ⟨b, 0, none⟩)) (by kernel_rfl)) hS_12 ?_
    refine K.DW.q 12 (by kernel_rfl) rfl rfl (by kernel_rfl) rfl (fun w hS => K.QR.k (v := .pointer (some ⟨b, 0, none⟩)) (by kernel_rfl)) hS_12 ?_
    refine K.DW.q 13 (by kernel_rfl) rfl rfl (by kernel_rfl) rfl (fun w hS => K.QR.k (v := .pointer (some ⟨b, 6, none⟩)) (by kernel_rfl)) hS_12 ?_
    refine K.DW.q 14 (by kernel_rfl) rfl rfl (by kernel_rfl) rfl (fun w hS => K.QR.ld1 (v := .int .i64 (lsz c)) rfl rfl (by kernel_rfl) (hS.cell (hb.cell rfl) id)) hS_12 ?_
    refine K.DW.q 15 (by kernel_rfl) rfl rfl (by kernel_rfl) rfl (fun w hS => K.QR.k (v := .int .i64 n) (by kernel_rfl)) hS_12 ?_
    refine K.DW.l 16 rfl (by kernel_rfl) rfl (K.OW.call rfl [.pointer (some ⟨b, 0, none⟩), .int .i64 t, .int .i64 c.th, .int .i64 (lFirst c), .int .i64 (lsz c), .int .i64 n] rfl rfl (by kernel_rfl) (lword _ c t c.th (lFirst c) (lsz c) n _ (by assumption) (by first | omega | (have := lay_bd (by assumption); unfold cfgOk at *; omega)) (by first | omega | (have := lay_bd (by assumption); unfold cfgOk at *; omega)) (by first | omega | (have := lay_bd (by assumption); unfold cfgOk at *; omega)) (by first | omega | (have := lay_bd (by assumption); unfold cfgOk at *; omega)) (hb.no c_13)) ?_)
    rintro _ w_16 ⟨rfl, c_15⟩
    have c_17 := c_13.no c_15
    have z_18 := c_17.size
    have hS_19 : (fun w => K.Chg K.No w0 w) w_16 := c_17
    refine ⟨hS_19, ?_⟩
    refine K.DW.q 17 (by kernel_rfl) rfl rfl (by kernel_rfl) rfl (fun w hS => K.QR.k (v := .int .i64 (wordS c (t) (c.th) ((lFirst c)) ((lsz c)) (n))) (by kernel_rfl)) hS_19 ?_
    refine K.DW.done (by kernel_rfl) ?_
    refine K.thn_normal ?_
    refine K.KW.ret ?_
    refine ⟨.inr rfl, (.int .i64 (wordS c (t) (c.th) ((lFirst c)) ((lsz c)) (n))), K.res1 rfl rfl, ?_⟩
    exact ⟨congrArg (Value.int .i64) (by first | rfl | omega | (unfold logS; (repeat' split) <;> omega)), c_17⟩
  ·  -- False
    rw [hb_7] at hv_3; subst hv_3
    have hp_20 := of_decide_eq_false hb_7
    refine K.RW.q rfl rfl (K.QR.k (v := .bool true) (by kernel_rfl)) ?_
    refine K.RW.nil ?_
    refine K.thn_normal ?_
    refine K.KW.ifT rfl ?_
    refine K.KW.seq ?_
    -- region 4 layout.go:148
    refine K.KW.region ?_
    refine K.RW.q rfl rfl (K.QR.k (v := .pointer (some ⟨b, 0, none⟩)) (by kernel_rfl)) ?_
    refine K.RW.l rfl (K.OW.call rfl [.pointer (some ⟨b, 0, none⟩)] rfl rfl (by kernel_rfl) (lLines _ c  _ (by assumption) (hb.no c_5)) ?_) 
    rintro _ w_22 ⟨rfl, c_21⟩
    have c_23 := c_5.no c_21
    have z_24 := c_23.size
    refine K.RW.q rfl rfl (K.QR.n64 (((lns c) : Int) * (8 : Int)) (((lns c) : Int) * (8 : Int)) (by kernel_rfl) (by omega)) ?_
    refine K.RW.q rfl rfl (K.QR.k (v := .int .i64 (((lns c) : Int) * (8 : Int))) (by kernel_rfl)) ?_
    refine K.RW.nil ?_
    refine K.thn_normal ?_
    refine K.KW.ret ?_
    refine K.thn_ret ?_
    refine ⟨.inr rfl, (.int .i64 (((lns c) : Int) * (8 : Int))), K.res1 rfl rfl, ?_⟩
    exact ⟨congrArg (Value.int .i64) (by first | rfl | omega | (unfold logS; (repeat' split) <;> omega)), c_23⟩

set_option maxHeartbeats 1000000 in
set_option maxRecDepth 100000 in
theorem lLog0 (t n : Int) (w0 : World) :
    K.KC Try.prog 62 #[.pointer none, .int .i64 t, .int .i64 n] w0 (fun v w' => v = .int .i64 0 ∧ K.Chg K.No w0 w') := by
  refine K.KC.mk (n := 37) Try.func62 rfl rfl [.pointer none, .int .i64 t, .int .i64 n] rfl rfl ?_
  refine K.KW.seq ?_
  -- region 0 layout.go:143
  refine K.KW.region ?_
  refine K.RW.q rfl rfl (K.QR.k (v := .int .i64 0) (by kernel_rfl)) ?_
  refine K.RW.nil ?_
  refine K.thn_normal ?_
  refine K.KW.seq ?_
  refine K.KW.seq ?_
  -- region 1 layout.go:144
  refine K.KW.region ?_
  refine K.RW.q rfl rfl (K.QR.k (v := .pointer none) (by kernel_rfl)) ?_
  refine K.RW.q rfl rfl (K.QR.k (v := .bool true) (by kernel_rfl)) ?_
  refine K.RW.nil ?_
  refine K.thn_normal ?_
  refine K.KW.ifT rfl ?_
  refine K.KW.seq ?_
  -- region 2 layout.go:145
  refine K.KW.region ?_
  refine K.RW.q rfl rfl (K.QR.k (v := .int .i64 0) (by kernel_rfl)) ?_
  refine K.RW.nil ?_
  refine K.thn_normal ?_
  refine K.KW.ret ?_
  refine K.thn_ret ?_
  refine ⟨.inr rfl, (.int .i64 0), K.res1 rfl rfl, ?_⟩
  exact ⟨rfl, (K.Chg.refl _)⟩

set_option maxHeartbeats 1000000 in
set_option maxRecDepth 100000 in
theorem lAnnounce (b : Nat) (c : Cfg) (t : Int) (w0 : World) (hc : cfgOk c) (hb : LayB w0 b c) :
    K.KC Try.prog 78 #[.pointer (some ⟨b, 0, none⟩), .int .i64 t] w0 (fun v w' => v = .int .i64 (annS c t) ∧ K.Chg K.No w0 w') := by
  have hbd := lay_bd hc
  have hcc := hc
  unfold cfgOk at hcc
  refine K.KC.mk (n := 18) Try.func78 rfl rfl [.pointer (some ⟨b, 0, none⟩), .int .i64 t] rfl rfl ?_
  refine K.KW.seq ?_
  -- region 0 layout.go:191
  refine K.KW.region ?_
  refine K.RW.q rfl rfl (K.QR.k (v := .int .i64 0) (by kernel_rfl)) ?_
  refine K.RW.nil ?_
  refine K.thn_normal ?_
  refine K.KW.seq ?_
  refine K.KW.seq ?_
  -- region 1 layout.go:192
  refine K.KW.region ?_
  refine K.RW.q rfl rfl (K.QR.k (v := .int .i64 t) (by kernel_rfl)) ?_
  refine K.RW.q rfl rfl (K.QR.k (v := .pointer (some ⟨b, 0, none⟩)) (by kernel_rfl)) ?_
  refine K.RW.l rfl (K.OW.call rfl [.pointer (some ⟨b, 0, none⟩)] rfl rfl (by kernel_rfl) (lConfig _ c  _ (by assumption) hb) ?_) 
  rintro _ w_2 ⟨rfl, c_1⟩
  have c_3 := c_1
  have z_4 := c_3.size
  refine K.RW.q rfl rfl (K.QR.k (v := .int .i64 c.th) (by kernel_rfl)) ?_
  refine K.RW.l rfl (K.OW.call rfl [.int .i64 t, .int .i64 c.th] rfl rfl (by kernel_rfl) (has_ok t c.th _) ?_) 
  rintro v_8 w_6 ⟨hv_7, c_5⟩
  have c_9 := c_3.no c_5
  have z_10 := c_9.size
  rcases Bool.eq_false_or_eq_true (decide (0 ≤ (t : Int) ∧ (t : Int) < (c.th : Int))) with hb_11 | hb_11
  ·  -- True
    rw [hb_11] at hv_7; subst hv_7
    have hp_12 := of_decide_eq_true hb_11
    refine K.RW.q rfl rfl (K.QR.k (v := .bool false) (by kernel_rfl)) ?_
    refine K.RW.nil ?_
    refine K.thn_normal ?_
    refine K.KW.ifF rfl ?_
    refine K.KW.skip ?_
    refine K.thn_normal ?_
    refine K.KW.seq ?_
    -- region 3 layout.go:195
    refine K.KW.region ?_
    refine K.RW.q rfl rfl (K.QR.k (v := .pointer (some ⟨b, 0, none⟩)) (by kernel_rfl)) ?_
    refine K.RW.q rfl rfl (K.QR.k (v := .int .i64 t) (by kernel_rfl)) ?_
    refine K.RW.q rfl rfl (K.QR.n64 ((2 : Int) + (t : Int)) ((2 : Int) + (t : Int)) (by kernel_rfl) (by omega)) ?_
    refine K.RW.l rfl (K.OW.call rfl [.pointer (some ⟨b, 0, none⟩), .int .i64 ((2 : Int) + (t : Int))] rfl rfl (by kernel_rfl) (lpass _ c ((2 : Int) + (t : Int)) _ (by assumption) (by first | omega | (have := lay_bd (by assumption); unfold cfgOk at *; omega)) (hb.no c_9)) ?_) 
    rintro _ w_14 ⟨rfl, c_13⟩
    have c_15 := c_9.no c_13
    have z_16 := c_15.size
    refine K.RW.q rfl rfl (K.QR.k (v := .int .i64 (-1 - ((2 : Int) + (t : Int)))) (by kernel_rfl)) ?_
    refine K.RW.nil ?_
    refine K.thn_normal ?_
    refine K.KW.ret ?_
    refine ⟨.inr rfl, (.int .i64 (-1 - ((2 : Int) + (t : Int)))), K.res1 rfl rfl, ?_⟩
    exact ⟨congrArg (Value.int .i64) (by first | rfl | omega | (unfold annS; (repeat' split) <;> omega)), c_15⟩
  ·  -- False
    rw [hb_11] at hv_7; subst hv_7
    have hp_17 := of_decide_eq_false hb_11
    refine K.RW.q rfl rfl (K.QR.k (v := .bool true) (by kernel_rfl)) ?_
    refine K.RW.nil ?_
    refine K.thn_normal ?_
    refine K.KW.ifT rfl ?_
    refine K.KW.seq ?_
    -- region 2 layout.go:193
    refine K.KW.region ?_
    refine K.RW.q rfl rfl (K.QR.k (v := .pointer (some ⟨b, 0, none⟩)) (by kernel_rfl)) ?_
    refine K.RW.l rfl (K.OW.call rfl [.pointer (some ⟨b, 0, none⟩)] rfl rfl (by kernel_rfl) (lLines _ c  _ (by assumption) (hb.no c_9)) ?_) 
    rintro _ w_19 ⟨rfl, c_18⟩
    have c_20 := c_9.no c_18
    have z_21 := c_20.size
    refine K.RW.q rfl rfl (K.QR.n64 (((lns c) : Int) * (8 : Int)) (((lns c) : Int) * (8 : Int)) (by kernel_rfl) (by omega)) ?_
    refine K.RW.q rfl rfl (K.QR.k (v := .int .i64 (((lns c) : Int) * (8 : Int))) (by kernel_rfl)) ?_
    refine K.RW.nil ?_
    refine K.thn_normal ?_
    refine K.KW.ret ?_
    refine K.thn_ret ?_
    refine ⟨.inr rfl, (.int .i64 (((lns c) : Int) * (8 : Int))), K.res1 rfl rfl, ?_⟩
    exact ⟨congrArg (Value.int .i64) (by first | rfl | omega | (unfold annS; (repeat' split) <;> omega)), c_20⟩

set_option maxHeartbeats 1000000 in
set_option maxRecDepth 100000 in
theorem lAnnounce0 (t : Int) (w0 : World) :
    K.KC Try.prog 78 #[.pointer none, .int .i64 t] w0 (fun v w' => v = .int .i64 0 ∧ K.Chg K.No w0 w') := by
  refine K.KC.mk (n := 18) Try.func78 rfl rfl [.pointer none, .int .i64 t] rfl rfl ?_
  refine K.KW.seq ?_
  -- region 0 layout.go:191
  refine K.KW.region ?_
  refine K.RW.q rfl rfl (K.QR.k (v := .int .i64 0) (by kernel_rfl)) ?_
  refine K.RW.nil ?_
  refine K.thn_normal ?_
  refine K.KW.seq ?_
  refine K.KW.seq ?_
  -- region 1 layout.go:192
  refine K.KW.region ?_
  refine K.RW.q rfl rfl (K.QR.k (v := .int .i64 t) (by kernel_rfl)) ?_
  refine K.RW.q rfl rfl (K.QR.k (v := .pointer none) (by kernel_rfl)) ?_
  refine K.RW.l rfl (K.OW.call rfl [.pointer none] rfl rfl (by kernel_rfl) (lConfig0  _) ?_) 
  rintro _ w_2 ⟨rfl, c_1⟩
  have c_3 := c_1
  have z_4 := c_3.size
  refine K.RW.q rfl rfl (K.QR.k (v := .int .i64 0) (by kernel_rfl)) ?_
  refine K.RW.l rfl (K.OW.call rfl [.int .i64 t, .int .i64 0] rfl rfl (by kernel_rfl) (has_ok t 0 _) ?_) 
  rintro v_8 w_6 ⟨hv_7, c_5⟩
  have c_9 := c_3.no c_5
  have z_10 := c_9.size
  rcases Bool.eq_false_or_eq_true (decide (0 ≤ (t : Int) ∧ (t : Int) < (0 : Int))) with hb_11 | hb_11
  ·  -- True
    rw [hb_11] at hv_7; subst hv_7
    have hp_12 := of_decide_eq_true hb_11
    refine K.RW.q rfl rfl (K.QR.k (v := .bool false) (by kernel_rfl)) ?_
    refine K.RW.nil ?_
    refine K.thn_normal ?_
    refine K.KW.ifF rfl ?_
    refine K.KW.skip ?_
    refine K.thn_normal ?_
    refine K.KW.seq ?_
    -- region 3 layout.go:195
    refine K.KW.region ?_
    refine K.RW.q rfl rfl (K.QR.k (v := .pointer none) (by kernel_rfl)) ?_
    refine K.RW.q rfl rfl (K.QR.k (v := .int .i64 t) (by kernel_rfl)) ?_
    refine K.RW.q rfl rfl (K.QR.n64 ((2 : Int) + (t : Int)) ((2 : Int) + (t : Int)) (by kernel_rfl) (by omega)) ?_
    refine K.RW.l rfl (K.OW.call rfl [.pointer none, .int .i64 ((2 : Int) + (t : Int))] rfl rfl (by kernel_rfl) (lpass0 ((2 : Int) + (t : Int)) _) ?_) 
    rintro _ w_14 ⟨rfl, c_13⟩
    have c_15 := c_9.no c_13
    have z_16 := c_15.size
    refine K.RW.q rfl rfl (K.QR.k (v := .int .i64 0) (by kernel_rfl)) ?_
    refine K.RW.nil ?_
    refine K.thn_normal ?_
    refine K.KW.ret ?_
    refine ⟨.inr rfl, (.int .i64 0), K.res1 rfl rfl, ?_⟩
    exact ⟨rfl, c_15⟩
  ·  -- False
    rw [hb_11] at hv_7; subst hv_7
    have hp_17 := of_decide_eq_false hb_11
    refine K.RW.q rfl rfl (K.QR.k (v := .bool true) (by kernel_rfl)) ?_
    refine K.RW.nil ?_
    refine K.thn_normal ?_
    refine K.KW.ifT rfl ?_
    refine K.KW.seq ?_
    -- region 2 layout.go:193
    refine K.KW.region ?_
    refine K.RW.q rfl rfl (K.QR.k (v := .pointer none) (by kernel_rfl)) ?_
    refine K.RW.l rfl (K.OW.call rfl [.pointer none] rfl rfl (by kernel_rfl) (lLines0  _) ?_) 
    rintro _ w_19 ⟨rfl, c_18⟩
    have c_20 := c_9.no c_18
    have z_21 := c_20.size
    refine K.RW.q rfl rfl (K.QR.k (v := .int .i64 0) (by kernel_rfl)) ?_
    refine K.RW.q rfl rfl (K.QR.k (v := .int .i64 0) (by kernel_rfl)) ?_
    refine K.RW.nil ?_
    refine K.thn_normal ?_
    refine K.KW.ret ?_
    refine K.thn_ret ?_
    refine ⟨.inr rfl, (.int .i64 0), K.res1 rfl rfl, ?_⟩
    exact ⟨rfl, c_20⟩

set_option maxHeartbeats 1000000 in
set_option maxRecDepth 100000 in
theorem lAfter (b : Nat) (c : Cfg) (s : Int) (w0 : World) (hc : cfgOk c) (hb : LayB w0 b c) :
    K.KC Try.prog 79 #[.pointer (some ⟨b, 0, none⟩), .int .i64 s] w0 (fun v w' => v = .int .i64 (aftS c s) ∧ K.Chg K.No w0 w') := by
  have hbd := lay_bd hc
  have hcc := hc
  unfold cfgOk at hcc
  refine K.KC.mk (n := 24) Try.func79 rfl rfl [.pointer (some ⟨b, 0, none⟩), .int .i64 s] rfl rfl ?_
  refine K.KW.seq ?_
  -- region 0 layout.go:199
  refine K.KW.region ?_
  refine K.RW.q rfl rfl (K.QR.k (v := .int .i64 0) (by kernel_rfl)) ?_
  refine K.RW.nil ?_
  refine K.thn_normal ?_
  refine K.KW.seq ?_
  refine K.KW.seq ?_
  -- region 1 layout.go:200
  refine K.KW.region ?_
  refine K.RW.q rfl rfl (K.QR.k (v := .int .i64 s) (by kernel_rfl)) ?_
  refine K.RW.q rfl rfl (K.QR.k (v := .pointer (some ⟨b, 0, none⟩)) (by kernel_rfl)) ?_
  refine K.RW.l rfl (K.OW.call rfl [.pointer (some ⟨b, 0, none⟩)] rfl rfl (by kernel_rfl) (lConfig _ c  _ (by assumption) hb) ?_) 
  rintro _ w_2 ⟨rfl, c_1⟩
  have c_3 := c_1
  have z_4 := c_3.size
  refine K.RW.q rfl rfl (K.QR.k (v := .int .i64 c.sl) (by kernel_rfl)) ?_
  refine K.RW.l rfl (K.OW.call rfl [.int .i64 s, .int .i64 c.sl] rfl rfl (by kernel_rfl) (has_ok s c.sl _) ?_) 
  rintro v_8 w_6 ⟨hv_7, c_5⟩
  have c_9 := c_3.no c_5
  have z_10 := c_9.size
  rcases Bool.eq_false_or_eq_true (decide (0 ≤ (s : Int) ∧ (s : Int) < (c.sl : Int))) with hb_11 | hb_11
  ·  -- True
    rw [hb_11] at hv_7; subst hv_7
    have hp_12 := of_decide_eq_true hb_11
    refine K.RW.q rfl rfl (K.QR.k (v := .bool false) (by kernel_rfl)) ?_
    refine K.RW.nil ?_
    refine K.thn_normal ?_
    refine K.KW.ifF rfl ?_
    refine K.KW.skip ?_
    refine K.thn_normal ?_
    refine K.KW.seq ?_
    -- region 3 layout.go:203
    refine K.KW.region ?_
    refine K.RW.q rfl rfl (K.QR.k (v := .pointer (some ⟨b, 0, none⟩)) (by kernel_rfl)) ?_
    refine K.RW.q rfl rfl (K.QR.k (v := .pointer (some ⟨b, 0, none⟩)) (by kernel_rfl)) ?_
    refine K.RW.q rfl rfl (K.QR.k (v := .pointer (some ⟨b, 0, none⟩)) (by kernel_rfl)) ?_
    refine K.RW.q rfl rfl (K.QR.k (v := .pointer (some ⟨b, 0, none⟩)) (by kernel_rfl)) ?_
    refine K.RW.q rfl rfl (K.QR.k (v := .pointer (some ⟨b, 0, none⟩)) (by kernel_rfl)) ?_
    refine K.RW.q rfl rfl (K.QR.ld1 (v := .int .i64 c.th) rfl rfl (by kernel_rfl) (c_9.cell (hb.cell rfl) id)) ?_
    refine K.RW.q rfl rfl (K.QR.n64 ((2 : Int) + (c.th : Int)) ((2 : Int) + (c.th : Int)) (by kernel_rfl) (by omega)) ?_
    refine K.RW.q rfl rfl (K.QR.k (v := .int .i64 s) (by kernel_rfl)) ?_
    refine K.RW.q rfl rfl (K.QR.n64 (((2 : Int) + (c.th : Int) : Int) + (s : Int)) (((2 : Int) + (c.th : Int) : Int) + (s : Int)) (by kernel_rfl) (by omega)) ?_
    refine K.RW.l rfl (K.OW.call rfl [.pointer (some ⟨b, 0, none⟩), .int .i64 (((2 : Int) + (c.th : Int) : Int) + (s : Int))] rfl rfl (by kernel_rfl) (lpass _ c (((2 : Int) + (c.th : Int) : Int) + (s : Int)) _ (by assumption) (by first | omega | (have := lay_bd (by assumption); unfold cfgOk at *; omega)) (hb.no c_9)) ?_) 
    rintro _ w_14 ⟨rfl, c_13⟩
    have c_15 := c_9.no c_13
    have z_16 := c_15.size
    refine K.RW.q rfl rfl (K.QR.k (v := .int .i64 (-1 - (((2 : Int) + (c.th : Int) : Int) + (s : Int)))) (by kernel_rfl)) ?_
    refine K.RW.nil ?_
    refine K.thn_normal ?_
    refine K.KW.ret ?_
    refine ⟨.inr rfl, (.int .i64 (-1 - (((2 : Int) + (c.th : Int) : Int) + (s : Int)))), K.res1 rfl rfl, ?_⟩
    exact ⟨congrArg (Value.int .i64) (by first | rfl | omega | (unfold aftS; (repeat' split) <;> omega)), c_15⟩
  ·  -- False
    rw [hb_11] at hv_7; subst hv_7
    have hp_17 := of_decide_eq_false hb_11
    refine K.RW.q rfl rfl (K.QR.k (v := .bool true) (by kernel_rfl)) ?_
    refine K.RW.nil ?_
    refine K.thn_normal ?_
    refine K.KW.ifT rfl ?_
    refine K.KW.seq ?_
    -- region 2 layout.go:201
    refine K.KW.region ?_
    refine K.RW.q rfl rfl (K.QR.k (v := .pointer (some ⟨b, 0, none⟩)) (by kernel_rfl)) ?_
    refine K.RW.l rfl (K.OW.call rfl [.pointer (some ⟨b, 0, none⟩)] rfl rfl (by kernel_rfl) (lLines _ c  _ (by assumption) (hb.no c_9)) ?_) 
    rintro _ w_19 ⟨rfl, c_18⟩
    have c_20 := c_9.no c_18
    have z_21 := c_20.size
    refine K.RW.q rfl rfl (K.QR.n64 (((lns c) : Int) * (8 : Int)) (((lns c) : Int) * (8 : Int)) (by kernel_rfl) (by omega)) ?_
    refine K.RW.q rfl rfl (K.QR.k (v := .int .i64 (((lns c) : Int) * (8 : Int))) (by kernel_rfl)) ?_
    refine K.RW.nil ?_
    refine K.thn_normal ?_
    refine K.KW.ret ?_
    refine K.thn_ret ?_
    refine ⟨.inr rfl, (.int .i64 (((lns c) : Int) * (8 : Int))), K.res1 rfl rfl, ?_⟩
    exact ⟨congrArg (Value.int .i64) (by first | rfl | omega | (unfold aftS; (repeat' split) <;> omega)), c_20⟩

set_option maxHeartbeats 1000000 in
set_option maxRecDepth 100000 in
theorem lAfter0 (s : Int) (w0 : World) :
    K.KC Try.prog 79 #[.pointer none, .int .i64 s] w0 (fun v w' => v = .int .i64 0 ∧ K.Chg K.No w0 w') := by
  refine K.KC.mk (n := 24) Try.func79 rfl rfl [.pointer none, .int .i64 s] rfl rfl ?_
  refine K.KW.seq ?_
  -- region 0 layout.go:199
  refine K.KW.region ?_
  refine K.RW.q rfl rfl (K.QR.k (v := .int .i64 0) (by kernel_rfl)) ?_
  refine K.RW.nil ?_
  refine K.thn_normal ?_
  refine K.KW.seq ?_
  refine K.KW.seq ?_
  -- region 1 layout.go:200
  refine K.KW.region ?_
  refine K.RW.q rfl rfl (K.QR.k (v := .int .i64 s) (by kernel_rfl)) ?_
  refine K.RW.q rfl rfl (K.QR.k (v := .pointer none) (by kernel_rfl)) ?_
  refine K.RW.l rfl (K.OW.call rfl [.pointer none] rfl rfl (by kernel_rfl) (lConfig0  _) ?_) 
  rintro _ w_2 ⟨rfl, c_1⟩
  have c_3 := c_1
  have z_4 := c_3.size
  refine K.RW.q rfl rfl (K.QR.k (v := .int .i64 0) (by kernel_rfl)) ?_
  refine K.RW.l rfl (K.OW.call rfl [.int .i64 s, .int .i64 0] rfl rfl (by kernel_rfl) (has_ok s 0 _) ?_) 
  rintro v_8 w_6 ⟨hv_7, c_5⟩
  have c_9 := c_3.no c_5
  have z_10 := c_9.size
  have hb_11 : decide (0 ≤ (s : Int) ∧ (s : Int) < (0 : Int)) = false := (decide_eq_false (by omega))
  rw [hb_11] at hv_7; subst hv_7
  refine K.RW.q rfl rfl (K.QR.k (v := .bool true) (by kernel_rfl)) ?_
  refine K.RW.nil ?_
  refine K.thn_normal ?_
  refine K.KW.ifT rfl ?_
  refine K.KW.seq ?_
  -- region 2 layout.go:201
  refine K.KW.region ?_
  refine K.RW.q rfl rfl (K.QR.k (v := .pointer none) (by kernel_rfl)) ?_
  refine K.RW.l rfl (K.OW.call rfl [.pointer none] rfl rfl (by kernel_rfl) (lLines0  _) ?_) 
  rintro _ w_13 ⟨rfl, c_12⟩
  have c_14 := c_9.no c_12
  have z_15 := c_14.size
  refine K.RW.q rfl rfl (K.QR.k (v := .int .i64 0) (by kernel_rfl)) ?_
  refine K.RW.q rfl rfl (K.QR.k (v := .int .i64 0) (by kernel_rfl)) ?_
  refine K.RW.nil ?_
  refine K.thn_normal ?_
  refine K.KW.ret ?_
  refine K.thn_ret ?_
  refine ⟨.inr rfl, (.int .i64 0), K.res1 rfl rfl, ?_⟩
  exact ⟨rfl, c_14⟩

set_option maxHeartbeats 1000000 in
set_option maxRecDepth 100000 in
theorem lSlot (b : Nat) (c : Cfg) (at_ : Int) (w0 : World) (hc : cfgOk c) (h4 : -9223372036854775808 ≤ at_ ∧ at_ ≤ 9223372036854775807) (hb : LayB w0 b c) :
    K.KC Try.prog 39 #[.pointer (some ⟨b, 0, none⟩), .int .i64 at_] w0 (fun v w' => v = .int .i64 (slotOf c at_) ∧ K.Chg K.No w0 w') := by
  have hbd := lay_bd hc
  have hcc := hc
  unfold cfgOk at hcc
  refine K.KC.mk (n := 36) Try.func39 rfl rfl [.pointer (some ⟨b, 0, none⟩), .int .i64 at_] rfl rfl ?_
  refine K.KW.seq ?_
  -- region 0 layout.go:207
  refine K.KW.region ?_
  refine K.RW.q rfl rfl (K.QR.k (v := .int .i64 0) (by kernel_rfl)) ?_
  refine K.RW.nil ?_
  refine K.thn_normal ?_
  refine K.KW.seq ?_
  refine K.KW.seq ?_
  -- region 1 layout.go:208
  refine K.KW.region ?_
  refine K.RW.q rfl rfl (K.QR.k (v := .pointer (some ⟨b, 0, none⟩)) (by kernel_rfl)) ?_
  refine K.RW.q rfl rfl (K.QR.k (v := .bool false) (by kernel_rfl)) ?_
  refine K.RW.q rfl rfl (K.QR.k (v := .bool false) (by kernel_rfl)) ?_
  refine K.RW.q rfl (by kernel_rfl) (K.QR.k (v := .int .i64 at_) (by kernel_rfl)) ?_
  by_cases h_1 : (at_ : Int) < (0 : Int)
  ·  -- yes
    refine K.RW.q rfl (by kernel_rfl) (K.QR.nice (v := .bool (decide ((at_ : Int) < (0 : Int)))) (by kernel_rfl) (congrArg Value.bool (decide_eq_true h_1))) ?_
    refine K.RW.q rfl rfl (K.QR.k (v := .bool true) (by kernel_rfl)) ?_
    refine K.RW.q rfl rfl (K.QR.k (v := .bool true) (by kernel_rfl)) ?_
    refine K.RW.skip rfl (by kernel_rfl) ?_
    refine K.RW.skip rfl (by kernel_rfl) ?_
    refine K.RW.skip rfl (by kernel_rfl) ?_
    refine K.RW.skip rfl (by kernel_rfl) ?_
    refine K.RW.skip rfl (by kernel_rfl) ?_
    refine K.RW.skip rfl (by kernel_rfl) ?_
    refine K.RW.skip rfl (by kernel_rfl) ?_
    refine K.RW.q rfl rfl (K.QR.k (v := .bool true) (by kernel_rfl)) ?_
    refine K.RW.q rfl rfl (K.QR.k (v := .bool true) (by kernel_rfl)) ?_
    refine K.RW.skip rfl (by kernel_rfl) ?_
    refine K.RW.skip rfl (by kernel_rfl) ?_
    refine K.RW.skip rfl (by kernel_rfl) ?_
    refine K.RW.skip rfl (by kernel_rfl) ?_
    refine K.RW.skip rfl (by kernel_rfl) ?_
    refine K.RW.skip rfl (by kernel_rfl) ?_
    refine K.RW.skip rfl (by kernel_rfl) ?_
    refine K.RW.q rfl rfl (K.QR.k (v := .bool true) (by kernel_rfl)) ?_
    refine K.RW.nil ?_
    refine K.thn_normal ?_
    refine K.KW.ifT rfl ?_
    refine K.KW.seq ?_
    -- region 2 layout.go:209
    refine K.KW.region ?_
    refine K.RW.q rfl rfl (K.QR.k (v := .int .i64 (-1)) (by kernel_rfl)) ?_
    refine K.RW.nil ?_
    refine K.thn_normal ?_
    refine K.KW.ret ?_
    refine K.thn_ret ?_
    refine ⟨.inr rfl, (.int .i64 (-1)), K.res1 rfl rfl, ?_⟩
    exact ⟨congrArg (Value.int .i64) (by first | rfl | omega | (unfold slotOf; (repeat' split) <;> omega)), (K.Chg.refl _)⟩
  ·  -- no
    refine K.RW.q rfl (by kernel_rfl) (K.QR.nice (v := .bool (decide ((at_ : Int) < (0 : Int)))) (by kernel_rfl) (congrArg Value.bool (decide_eq_false h_1))) ?_
    refine K.RW.q rfl rfl (K.QR.k (v := .bool false) (by kernel_rfl)) ?_
    refine K.RW.q rfl rfl (K.QR.k (v := .bool false) (by kernel_rfl)) ?_
    refine K.RW.q rfl (by kernel_rfl) (K.QR.k (v := .int .i64 at_) (by kernel_rfl)) ?_
    refine K.RW.q rfl (by kernel_rfl) (K.QR.quoi64 (at_ : Int) 8 ((at_ : Int) / 8) (by kernel_rfl) (by omega) (by omega)) ?_
    refine K.RW.q rfl (by kernel_rfl) (K.QR.k (v := .pointer (some ⟨b, 0, none⟩)) (by kernel_rfl)) ?_
    refine K.RW.q rfl (by kernel_rfl) (K.QR.k (v := .pointer (some ⟨b, 0, none⟩)) (by kernel_rfl)) ?_
    refine K.RW.q rfl (by kernel_rfl) (K.QR.k (v := .pointer (some ⟨b, 7, none⟩)) (by kernel_rfl)) ?_
    refine K.RW.q rfl (by kernel_rfl) (K.QR.ld1 (v := .int .i64 (sFirst c)) rfl rfl (by kernel_rfl) (hb.cell rfl)) ?_
    by_cases h_2 : ((at_ : Int) / 8 : Int) < ((sFirst c) : Int)
    ·  -- yes
      refine K.RW.q rfl (by kernel_rfl) (K.QR.nice (v := .bool (decide (((at_ : Int) / 8 : Int) < ((sFirst c) : Int)))) (by kernel_rfl) (congrArg Value.bool (decide_eq_true h_2))) ?_
      refine K.RW.q rfl rfl (K.QR.k (v := .bool true) (by kernel_rfl)) ?_
      refine K.RW.q rfl rfl (K.QR.k (v := .bool true) (by kernel_rfl)) ?_
      refine K.RW.skip rfl (by kernel_rfl) ?_
      refine K.RW.skip rfl (by kernel_rfl) ?_
      refine K.RW.skip rfl (by kernel_rfl) ?_
      refine K.RW.skip rfl (by kernel_rfl) ?_
      refine K.RW.skip rfl (by kernel_rfl) ?_
      refine K.RW.skip rfl (by kernel_rfl) ?_
      refine K.RW.skip rfl (by kernel_rfl) ?_
      refine K.RW.q rfl rfl (K.QR.k (v := .bool true) (by kernel_rfl)) ?_
      refine K.RW.nil ?_
      refine K.thn_normal ?_
      refine K.KW.ifT rfl ?_
      refine K.KW.seq ?_
      -- region 2 layout.go:209
      refine K.KW.region ?_
      refine K.RW.q rfl rfl (K.QR.k (v := .int .i64 (-1)) (by kernel_rfl)) ?_
      refine K.RW.nil ?_
      refine K.thn_normal ?_
      refine K.KW.ret ?_
      refine K.thn_ret ?_
      refine ⟨.inr rfl, (.int .i64 (-1)), K.res1 rfl rfl, ?_⟩
      exact ⟨congrArg (Value.int .i64) (by first | rfl | omega | (unfold slotOf; (repeat' split) <;> omega)), (K.Chg.refl _)⟩
    ·  -- no
      refine K.RW.q rfl (by kernel_rfl) (K.QR.nice (v := .bool (decide (((at_ : Int) / 8 : Int) < ((sFirst c) : Int)))) (by kernel_rfl) (congrArg Value.bool (decide_eq_false h_2))) ?_
      refine K.RW.q rfl rfl (K.QR.k (v := .bool false) (by kernel_rfl)) ?_
      refine K.RW.q rfl rfl (K.QR.k (v := .bool false) (by kernel_rfl)) ?_
      refine K.RW.q rfl (by kernel_rfl) (K.QR.k (v := .int .i64 at_) (by kernel_rfl)) ?_
      refine K.RW.q rfl (by kernel_rfl) (K.QR.quoi64 (at_ : Int) 8 ((at_ : Int) / 8) (by kernel_rfl) (by omega) (by omega)) ?_
      refine K.RW.q rfl (by kernel_rfl) (K.QR.k (v := .pointer (some ⟨b, 0, none⟩)) (by kernel_rfl)) ?_
      refine K.RW.q rfl (by kernel_rfl) (K.QR.k (v := .pointer (some ⟨b, 0, none⟩)) (by kernel_rfl)) ?_
      refine K.RW.q rfl (by kernel_rfl) (K.QR.k (v := .pointer (some ⟨b, 8, none⟩)) (by kernel_rfl)) ?_
      refine K.RW.q rfl (by kernel_rfl) (K.QR.ld1 (v := .int .i64 (lns c)) rfl rfl (by kernel_rfl) (hb.cell rfl)) ?_
      by_cases h_3 : ((at_ : Int) / 8 : Int) ≥ ((lns c) : Int)
      ·  -- yes
        refine K.RW.q rfl (by kernel_rfl) (K.QR.nice (v := .bool (decide (((at_ : Int) / 8 : Int) ≥ ((lns c) : Int)))) (by kernel_rfl) (congrArg Value.bool (decide_eq_true h_3))) ?_
        refine K.RW.q rfl rfl (K.QR.k (v := .bool true) (by kernel_rfl)) ?_
        refine K.RW.nil ?_
        refine K.thn_normal ?_
        refine K.KW.ifT rfl ?_
        refine K.KW.seq ?_
        -- region 2 layout.go:209
        refine K.KW.region ?_
        refine K.RW.q rfl rfl (K.QR.k (v := .int .i64 (-1)) (by kernel_rfl)) ?_
        refine K.RW.nil ?_
        refine K.thn_normal ?_
        refine K.KW.ret ?_
        refine K.thn_ret ?_
        refine ⟨.inr rfl, (.int .i64 (-1)), K.res1 rfl rfl, ?_⟩
        exact ⟨congrArg (Value.int .i64) (by first | rfl | omega | (unfold slotOf; (repeat' split) <;> omega)), (K.Chg.refl _)⟩
      ·  -- no
        refine K.RW.q rfl (by kernel_rfl) (K.QR.nice (v := .bool (decide (((at_ : Int) / 8 : Int) ≥ ((lns c) : Int)))) (by kernel_rfl) (congrArg Value.bool (decide_eq_false h_3))) ?_
        refine K.RW.q rfl rfl (K.QR.k (v := .bool false) (by kernel_rfl)) ?_
        refine K.RW.nil ?_
        refine K.thn_normal ?_
        refine K.KW.ifF rfl ?_
        refine K.KW.skip ?_
        refine K.thn_normal ?_
        refine K.KW.seq ?_
        -- region 3 layout.go:211
        refine K.KW.region ?_
        refine K.RW.q rfl rfl (K.QR.k (v := .int .i64 at_) (by kernel_rfl)) ?_
        refine K.RW.q rfl rfl (K.QR.quoi64 (at_ : Int) 8 ((at_ : Int) / 8) (by kernel_rfl) (by omega) (by omega)) ?_
        refine K.RW.q rfl rfl (K.QR.k (v := .pointer (some ⟨b, 0, none⟩)) (by kernel_rfl)) ?_
        refine K.RW.q rfl rfl (K.QR.k (v := .pointer (some ⟨b, 0, none⟩)) (by kernel_rfl)) ?_
        refine K.RW.q rfl rfl (K.QR.k (v := .pointer (some ⟨b, 7, none⟩)) (by kernel_rfl)) ?_
        refine K.RW.q rfl rfl (K.QR.ld1 (v := .int .i64 (sFirst c)) rfl rfl (by kernel_rfl) (hb.cell rfl)) ?_
        refine K.RW.q rfl rfl (K.QR.n64 (((at_ : Int) / 8 : Int) - ((sFirst c) : Int)) (((at_ : Int) / 8 : Int) - ((sFirst c) : Int)) (by kernel_rfl) (by omega)) ?_
        refine K.RW.q rfl rfl (K.QR.k (v := .int .i64 (((at_ : Int) / 8 : Int) - ((sFirst c) : Int))) (by kernel_rfl)) ?_
        refine K.RW.nil ?_
        refine K.thn_normal ?_
        refine K.KW.ret ?_
        refine ⟨.inr rfl, (.int .i64 (((at_ : Int) / 8 : Int) - ((sFirst c) : Int))), K.res1 rfl rfl, ?_⟩
        exact ⟨congrArg (Value.int .i64) (by first | rfl | omega | (unfold slotOf; (repeat' split) <;> omega)), (K.Chg.refl _)⟩

set_option maxHeartbeats 1000000 in
set_option maxRecDepth 100000 in
theorem lSlot0 (at_ : Int) (w0 : World) :
    K.KC Try.prog 39 #[.pointer none, .int .i64 at_] w0 (fun v w' => v = .int .i64 (-1) ∧ K.Chg K.No w0 w') := by
  refine K.KC.mk (n := 36) Try.func39 rfl rfl [.pointer none, .int .i64 at_] rfl rfl ?_
  refine K.KW.seq ?_
  -- region 0 layout.go:207
  refine K.KW.region ?_
  refine K.RW.q rfl rfl (K.QR.k (v := .int .i64 0) (by kernel_rfl)) ?_
  refine K.RW.nil ?_
  refine K.thn_normal ?_
  refine K.KW.seq ?_
  refine K.KW.seq ?_
  -- region 1 layout.go:208
  refine K.KW.region ?_
  refine K.RW.q rfl rfl (K.QR.k (v := .pointer none) (by kernel_rfl)) ?_
  refine K.RW.q rfl rfl (K.QR.k (v := .bool true) (by kernel_rfl)) ?_
  refine K.RW.q rfl rfl (K.QR.k (v := .bool true) (by kernel_rfl)) ?_
  refine K.RW.skip rfl (by kernel_rfl) ?_
  refine K.RW.skip rfl (by kernel_rfl) ?_
  refine K.RW.q rfl rfl (K.QR.k (v := .bool true) (by kernel_rfl)) ?_
  refine K.RW.q rfl rfl (K.QR.k (v := .bool true) (by kernel_rfl)) ?_
  refine K.RW.skip rfl (by kernel_rfl) ?_
  refine K.RW.skip rfl (by kernel_rfl) ?_
  refine K.RW.skip rfl (by kernel_rfl) ?_
  refine K.RW.skip rfl (by kernel_rfl) ?_
  refine K.RW.skip rfl (by kernel_rfl) ?_
  refine K.RW.skip rfl (by kernel_rfl) ?_
  refine K.RW.skip rfl (by kernel_rfl) ?_
  refine K.RW.q rfl rfl (K.QR.k (v := .bool true) (by kernel_rfl)) ?_
  refine K.RW.q rfl rfl (K.QR.k (v := .bool true) (by kernel_rfl)) ?_
  refine K.RW.skip rfl (by kernel_rfl) ?_
  refine K.RW.skip rfl (by kernel_rfl) ?_
  refine K.RW.skip rfl (by kernel_rfl) ?_
  refine K.RW.skip rfl (by kernel_rfl) ?_
  refine K.RW.skip rfl (by kernel_rfl) ?_
  refine K.RW.skip rfl (by kernel_rfl) ?_
  refine K.RW.skip rfl (by kernel_rfl) ?_
  refine K.RW.q rfl rfl (K.QR.k (v := .bool true) (by kernel_rfl)) ?_
  refine K.RW.nil ?_
  refine K.thn_normal ?_
  refine K.KW.ifT rfl ?_
  refine K.KW.seq ?_
  -- region 2 layout.go:209
  refine K.KW.region ?_
  refine K.RW.q rfl rfl (K.QR.k (v := .int .i64 (-1)) (by kernel_rfl)) ?_
  refine K.RW.nil ?_
  refine K.thn_normal ?_
  refine K.KW.ret ?_
  refine K.thn_ret ?_
  refine ⟨.inr rfl, (.int .i64 (-1)), K.res1 rfl rfl, ?_⟩
  exact ⟨rfl, (K.Chg.refl _)⟩

end Go.Proofs.Ytcmlompigmhddaa
