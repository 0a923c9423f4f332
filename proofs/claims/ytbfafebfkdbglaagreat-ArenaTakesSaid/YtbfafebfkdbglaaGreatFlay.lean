import Derived.Test.YtbfafebfkdbglaaGreatFlist
/- Contracts of package layout and of the reference of layer 6. -/
namespace Go.Proofs.YtbfafebfkdbglaaGreat
open Go.RowKit
set_option linter.unusedVariables false
attribute [local irreducible] K.KW K.RW K.DW K.OW K.QR K.KC
structure Cfg where
 th : Int
 sl : Int
 lo : Int
 bu : Int
 deriving DecidableEq
structure Nm where
 k : Int
 a : Int
 b : Int
 deriving DecidableEq
def nm0 : Nm := ⟨0, 0, 0⟩
def cNm (x : Nm) : List Value := [K.iv x.k, K.iv x.a, K.iv x.b]
def cCfg (c : Cfg) : List Value := [K.iv c.th, K.iv c.sl, K.iv c.lo, K.iv c.bu]
def cfgOk (c : Cfg) : Prop := (1 ≤ c.th ∧ c.th ≤ 64) ∧ (1 ≤ c.sl ∧ c.sl ≤ 65536) ∧ (1 ≤ c.lo ∧ c.lo ≤ 64) ∧ (1 ≤ c.bu ∧ c.bu ≤ 64)
instance (c : Cfg) : Decidable (cfgOk c) := by unfold cfgOk; infer_instance
def lsz (c : Cfg) : Int := (c.lo + 7) / 8
def tFirst (c : Cfg) : Int := 5 + (c.bu + 7) / 8
def lFirst (c : Cfg) : Int := tFirst c + c.th
def tl (c : Cfg) : Int := c.th * lsz c
def sFirst (c : Cfg) : Int := lFirst c + tl c
def lns (c : Cfg) : Int := sFirst c + c.sl
theorem lsz_bd {c : Cfg} (h : cfgOk c) : 1 ≤ lsz c ∧ lsz c ≤ 8 := by unfold cfgOk at h; unfold lsz; omega
theorem mul_bd {a b A B : Int} (ha : 0 ≤ a) (hA : a ≤ A) (hb : 0 ≤ b) (hB : b ≤ B) : 0 ≤ a * b ∧ a * b ≤ A * B :=
 ⟨Int.mul_nonneg ha hb, Int.le_trans (Int.mul_le_mul_of_nonneg_right hA hb) (Int.mul_le_mul_of_nonneg_left hB (Int.le_trans ha hA))⟩
theorem tl_bd {c : Cfg} (h : cfgOk c) : 0 ≤ tl c ∧ tl c ≤ 512 := by
 have h1 := lsz_bd h
 unfold cfgOk at h
 have := mul_bd (a := c.th) (b := lsz c) (A := 64) (B := 8) (by omega) (by omega) (by omega) (by omega)
 unfold tl; omega
theorem lay_bd {c : Cfg} (h : cfgOk c) : (6 ≤ tFirst c ∧ tFirst c ≤ 13) ∧ (7 ≤ lFirst c ∧ lFirst c ≤ 77) ∧ (7 ≤ sFirst c ∧ sFirst c ≤ 589) ∧ (8 ≤ lns c ∧ lns c ≤ 66125) ∧ (1 ≤ lsz c ∧ lsz c ≤ 8) ∧ lns c = sFirst c + c.sl ∧ lFirst c = tFirst c + c.th ∧ sFirst c = lFirst c + tl c := by
 have h1 := lsz_bd h
 have h2 := tl_bd h
 unfold cfgOk at h
 unfold lns sFirst lFirst tFirst
 omega
def wordS (c : Cfg) (n many first size at_ : Int) : Int := if 0 ≤ n ∧ n < many then (first + size * n) * 8 + at_ else lns c * 8
def bucketS (c : Cfg) (n : Int) : Int := if 0 ≤ n ∧ n < c.bu then 40 + n else lns c * 8
def threadS (c : Cfg) (t at_ : Int) : Int := wordS c t c.th (tFirst c) 1 at_
def logS (c : Cfg) (t n : Int) : Int := if 0 ≤ n ∧ n < c.lo then wordS c t c.th (lFirst c) (lsz c) n else lns c * 8
def slotS (c : Cfg) (s at_ : Int) : Int := wordS c s c.sl (sFirst c) 1 at_
def annS (c : Cfg) (t : Int) : Int := if 0 ≤ t ∧ t < c.th then -3 - t else lns c * 8
def aftS (c : Cfg) (s : Int) : Int := if 0 ≤ s ∧ s < c.sl then -3 - c.th - s else lns c * 8
def toldS (c : Cfg) (n : Nm) : Int :=
 if n.k = 2 then 16 else if n.k = 3 then 24 else if n.k = 4 then 32 else if n.k = 5 then bucketS c n.a else if n.k = 6 then threadS c n.a 0 else if n.k = 7 then threadS c n.a 1 else
 if n.k = 8 then logS c n.a n.b else if n.k = 9 then slotS c n.a 0 else if n.k = 10 then slotS c n.a 1 else if n.k = 11 then slotS c n.a 2 else if n.k = 12 then slotS c n.a 3 else if n.k = 13 then slotS c n.a 4 else
 if n.k = 14 then -1 else if n.k = 15 then -2 else if n.k = 16 then annS c n.a else aftS c n.a
abbrev LayB (w : World) (b : Nat) (c : Cfg) : Prop := K.Blk w b 189 [K.iv c.th, K.iv c.sl, K.iv c.lo, K.iv c.bu, K.iv (tFirst c), K.iv (lFirst c), K.iv (lsz c), K.iv (sFirst c), K.iv (lns c)]
theorem eqNm_t {a0 a1 a2 b0 b1 b2 : Int} (h : a0 = b0 ∧ a1 = b1 ∧ a2 = b2) (w : World) : (Op.equal 115 (.agg #[K.iv a0, K.iv a1, K.iv a2]) (.agg #[K.iv b0, K.iv b1, K.iv b2])).run Tryz.prog w = .ok true w := by
 obtain ⟨rfl, rfl, rfl⟩ := h
 simp [go_sem, Op.equal, Op.maxDepth]
theorem eqNm_f {a0 a1 a2 b0 b1 b2 : Int} (h : ¬ (a0 = b0 ∧ a1 = b1 ∧ a2 = b2)) (w : World) : (Op.equal 115 (.agg #[K.iv a0, K.iv a1, K.iv a2]) (.agg #[K.iv b0, K.iv b1, K.iv b2])).run Tryz.prog w = .ok false w := by
 by_cases h0 : a0 = b0 <;> by_cases h1 : a1 = b1 <;> by_cases h2 : a2 = b2 <;> first | (exfalso; exact h ⟨h0, h1, h2⟩) | simp [go_sem, Op.equal, Op.maxDepth, h0, h1, h2]
set_option maxHeartbeats 1000000 in
set_option maxRecDepth 100000 in
theorem from_ok (n : Int) (most : Int) (w0 : World) :
  K.KC Tryz.prog 160 #[K.iv n, K.iv most] w0 (fun v w' => v = .bool (decide (1 ≤ n ∧ n ≤ most)) ∧ K.Chg K.No w0 w') := by
 refine K.KC.mk (n := 12) Tryz.func160 rfl rfl [K.iv n, K.iv most] rfl rfl ?_
 refine K.s ?_
 -- region 0 super.go:28
 refine K.g (K.q [.bool false] (K.z (K.t (K.s ?_))))
 -- region 1 super.go:28
 refine K.g (K.q [K.iv n] ?_)
 by_cases h_1 : (n : Int) ≥ (1 : Int)
 ·
  refine K.y ((n : Int) ≥ (1 : Int)) h_1 ?_
  refine K.q [.bool true, K.iv n, K.iv most] ?_
  by_cases h_2 : (n : Int) ≤ (most : Int)
  ·
   refine K.y ((n : Int) ≤ (most : Int)) h_2 ?_
   refine K.q [.bool true, .bool true] (K.z (K.t (K.r ?_)))
   refine ⟨.inr rfl, rfl, (.bool true), K.res1 rfl rfl, ?_⟩
   exact ⟨congrArg Value.bool (by first | exact (decide_eq_true (by omega)).symm | exact (decide_eq_false (by omega)).symm), (K.Chg.refl _)⟩
  ·
   refine K.x ((n : Int) ≤ (most : Int)) h_2 ?_
   refine K.q [.bool false, .bool false] (K.z (K.t (K.r ?_)))
   refine ⟨.inr rfl, rfl, (.bool false), K.res1 rfl rfl, ?_⟩
   exact ⟨congrArg Value.bool (by first | exact (decide_eq_true (by omega)).symm | exact (decide_eq_false (by omega)).symm), (K.Chg.refl _)⟩
 ·
  refine K.x ((n : Int) ≥ (1 : Int)) h_1 ?_
  refine K.q [.bool false] (K.n_ (K.n_ (K.n_ (K.q [.bool false, .bool false] (K.z (K.t (K.r ?_)))))))
  refine ⟨.inr rfl, rfl, (.bool false), K.res1 rfl rfl, ?_⟩
  exact ⟨congrArg Value.bool (by first | exact (decide_eq_true (by omega)).symm | exact (decide_eq_false (by omega)).symm), (K.Chg.refl _)⟩
set_option maxHeartbeats 1000000 in
set_option maxRecDepth 100000 in
theorem has_ok (n : Int) (many : Int) (w0 : World) :
  K.KC Tryz.prog 149 #[K.iv n, K.iv many] w0 (fun v w' => v = .bool (decide (0 ≤ n ∧ n < many)) ∧ K.Chg K.No w0 w') := by
 refine K.KC.mk (n := 12) Tryz.func149 rfl rfl [K.iv n, K.iv many] rfl rfl ?_
 refine K.s ?_
 -- region 0 layout.go:92
 refine K.g (K.q [.bool false] (K.z (K.t (K.s ?_))))
 -- region 1 layout.go:92
 refine K.g (K.q [K.iv n] ?_)
 by_cases h_1 : (n : Int) ≥ (0 : Int)
 ·
  refine K.y ((n : Int) ≥ (0 : Int)) h_1 ?_
  refine K.q [.bool true, K.iv n, K.iv many] ?_
  by_cases h_2 : (n : Int) < (many : Int)
  ·
   refine K.y ((n : Int) < (many : Int)) h_2 ?_
   refine K.q [.bool true, .bool true] (K.z (K.t (K.r ?_)))
   refine ⟨.inr rfl, rfl, (.bool true), K.res1 rfl rfl, ?_⟩
   exact ⟨congrArg Value.bool (by first | exact (decide_eq_true (by omega)).symm | exact (decide_eq_false (by omega)).symm), (K.Chg.refl _)⟩
  ·
   refine K.x ((n : Int) < (many : Int)) h_2 ?_
   refine K.q [.bool false, .bool false] (K.z (K.t (K.r ?_)))
   refine ⟨.inr rfl, rfl, (.bool false), K.res1 rfl rfl, ?_⟩
   exact ⟨congrArg Value.bool (by first | exact (decide_eq_true (by omega)).symm | exact (decide_eq_false (by omega)).symm), (K.Chg.refl _)⟩
 ·
  refine K.x ((n : Int) ≥ (0 : Int)) h_1 ?_
  refine K.q [.bool false] (K.n_ (K.n_ (K.n_ (K.q [.bool false, .bool false] (K.z (K.t (K.r ?_)))))))
  refine ⟨.inr rfl, rfl, (.bool false), K.res1 rfl rfl, ?_⟩
  exact ⟨congrArg Value.bool (by first | exact (decide_eq_true (by omega)).symm | exact (decide_eq_false (by omega)).symm), (K.Chg.refl _)⟩
set_option maxHeartbeats 1000000 in
set_option maxRecDepth 100000 in
theorem sright_ok (c : Cfg) (w0 : World) :
  K.KC Tryz.prog 109 #[.agg #[K.iv c.th, K.iv c.sl, K.iv c.lo, K.iv c.bu]] w0 (fun v w' => v = .bool (decide (cfgOk c)) ∧ K.Chg K.No w0 w') := by
 refine K.KC.mk (n := 21) Tryz.func109 rfl rfl [.agg #[K.iv c.th, K.iv c.sl, K.iv c.lo, K.iv c.bu]] rfl rfl ?_
 refine K.s ?_
 -- region 0 super.go:31
 refine K.g ?_
 refine K.l (K.OW.new (t := 23) rfl (fun r => K.pa r) [K.iv c.th, K.iv c.sl, K.iv c.lo, K.iv c.bu] (by kernel_rfl) ?_)
 intro w_1 r_2 hr_3 e_4 hs_5 b_6
 have c_7 := e_4
 have z_8 := c_7.size
 have zz_9 := e_4.size
 refine K.q [.bool false] (K.z (K.t (K.s ?_)))
 -- region 1 super.go:32
 refine K.g (K.q [K.pa r_2] ?_)
 refine K.d (K.iv c.th) (b_6.cell rfl) ?_
 refine K.l (K.OW.call rfl [K.iv c.th, K.iv 64] rfl rfl (by kernel_rfl) (from_ok c.th 64 _) ?_)
 rintro v_13 w_11 ⟨hv_12, c_10⟩
 have c_14 := c_7.no c_10
 have z_15 := c_14.size
 have zz_16 := c_10.size
 have f_17 := b_6.no c_10
 rcases Bool.eq_false_or_eq_true (decide (1 ≤ (c.th : Int) ∧ (c.th : Int) ≤ (64 : Int))) with hb_18 | hb_18
 ·
  rw [hb_18] at hv_12; subst hv_12
  have hp_19 := of_decide_eq_true hb_18
  refine K.q [.bool true, .pointer (some ⟨r_2, 1, none⟩)] ?_
  refine K.d (K.iv c.sl) (f_17.cell rfl) ?_
  refine K.l (K.OW.call rfl [K.iv c.sl, K.iv 65536] rfl rfl (by kernel_rfl) (from_ok c.sl 65536 _) ?_)
  rintro v_23 w_21 ⟨hv_22, c_20⟩
  have c_24 := c_14.no c_20
  have z_25 := c_24.size
  have zz_26 := c_20.size
  have f_27 := f_17.no c_20
  rcases Bool.eq_false_or_eq_true (decide (1 ≤ (c.sl : Int) ∧ (c.sl : Int) ≤ (65536 : Int))) with hb_28 | hb_28
  ·
   rw [hb_28] at hv_22; subst hv_22
   have hp_29 := of_decide_eq_true hb_28
   refine K.q [.bool true, .bool true, .pointer (some ⟨r_2, 2, none⟩)] ?_
   refine K.d (K.iv c.lo) (f_27.cell rfl) ?_
   refine K.l (K.OW.call rfl [K.iv c.lo, K.iv 64] rfl rfl (by kernel_rfl) (from_ok c.lo 64 _) ?_)
   rintro v_33 w_31 ⟨hv_32, c_30⟩
   have c_34 := c_24.no c_30
   have z_35 := c_34.size
   have zz_36 := c_30.size
   have f_37 := f_27.no c_30
   rcases Bool.eq_false_or_eq_true (decide (1 ≤ (c.lo : Int) ∧ (c.lo : Int) ≤ (64 : Int))) with hb_38 | hb_38
   ·
    rw [hb_38] at hv_32; subst hv_32
    have hp_39 := of_decide_eq_true hb_38
    refine K.q [.bool true, .bool true, .pointer (some ⟨r_2, 3, none⟩)] ?_
    refine K.d (K.iv c.bu) (f_37.cell rfl) ?_
    refine K.l (K.OW.call rfl [K.iv c.bu, K.iv 64] rfl rfl (by kernel_rfl) (from_ok c.bu 64 _) ?_)
    rintro v_43 w_41 ⟨hv_42, c_40⟩
    have c_44 := c_34.no c_40
    have z_45 := c_44.size
    have zz_46 := c_40.size
    have f_47 := f_37.no c_40
    rcases Bool.eq_false_or_eq_true (decide (1 ≤ (c.bu : Int) ∧ (c.bu : Int) ≤ (64 : Int))) with hb_48 | hb_48
    ·
     rw [hb_48] at hv_42; subst hv_42
     have hp_49 := of_decide_eq_true hb_48
     refine K.q [.bool true, .bool true] (K.z (K.t (K.r ?_)))
     refine ⟨.inr rfl, rfl, (.bool true), K.res1 rfl rfl, ?_⟩
     exact ⟨congrArg Value.bool (by first | exact (decide_eq_true (by unfold cfgOk; omega)).symm | exact (decide_eq_false (by unfold cfgOk; omega)).symm), c_44⟩
    ·
     rw [hb_48] at hv_42; subst hv_42
     have hp_50 := of_decide_eq_false hb_48
     refine K.q [.bool false, .bool false] (K.z (K.t (K.r ?_)))
     refine ⟨.inr rfl, rfl, (.bool false), K.res1 rfl rfl, ?_⟩
     exact ⟨congrArg Value.bool (by first | exact (decide_eq_true (by unfold cfgOk; omega)).symm | exact (decide_eq_false (by unfold cfgOk; omega)).symm), c_44⟩
   ·
    rw [hb_38] at hv_32; subst hv_32
    have hp_51 := of_decide_eq_false hb_38
    refine K.q [.bool false, .bool false] (K.n_ (K.n_ (K.n_ (K.q [.bool false, .bool false] (K.z (K.t (K.r ?_)))))))
    refine ⟨.inr rfl, rfl, (.bool false), K.res1 rfl rfl, ?_⟩
    exact ⟨congrArg Value.bool (by first | exact (decide_eq_true (by unfold cfgOk; omega)).symm | exact (decide_eq_false (by unfold cfgOk; omega)).symm), c_34⟩
  ·
   rw [hb_28] at hv_22; subst hv_22
   have hp_52 := of_decide_eq_false hb_28
   refine K.q [.bool false, .bool false] (K.n_ (K.n_ (K.n_ (K.q [.bool false, .bool false] (K.n_ (K.n_ (K.n_ (K.q [.bool false, .bool false] (K.z (K.t (K.r ?_)))))))))))
   refine ⟨.inr rfl, rfl, (.bool false), K.res1 rfl rfl, ?_⟩
   exact ⟨congrArg Value.bool (by first | exact (decide_eq_true (by unfold cfgOk; omega)).symm | exact (decide_eq_false (by unfold cfgOk; omega)).symm), c_24⟩
 ·
  rw [hb_18] at hv_12; subst hv_12
  have hp_53 := of_decide_eq_false hb_18
  refine K.q [.bool false] (K.n_ (K.n_ (K.n_ (K.q [.bool false, .bool false] (K.n_ (K.n_ (K.n_ (K.q [.bool false, .bool false] (K.n_ (K.n_ (K.n_ (K.q [.bool false] ?_))))))))))))
  refine K.q [.bool false] (K.z (K.t (K.r ?_)))
  refine ⟨.inr rfl, rfl, (.bool false), K.res1 rfl rfl, ?_⟩
  exact ⟨congrArg Value.bool (by first | exact (decide_eq_true (by unfold cfgOk; omega)).symm | exact (decide_eq_false (by unfold cfgOk; omega)).symm), c_14⟩
set_option maxHeartbeats 1000000 in
set_option maxRecDepth 100000 in
theorem rright05_ok (c : Cfg) (w0 : World) :
  K.KC Tryz.prog 55 #[.agg #[K.iv c.th, K.iv c.sl, K.iv c.lo, K.iv c.bu]] w0 (fun v w' => v = .bool (decide (cfgOk c)) ∧ K.Chg K.No w0 w') := by
 refine K.KC.mk (n := 41) Tryz.func55 rfl rfl [.agg #[K.iv c.th, K.iv c.sl, K.iv c.lo, K.iv c.bu]] rfl rfl ?_
 refine K.s ?_
 -- region 0 ref.go:10
 refine K.g ?_
 refine K.l (K.OW.new (t := 23) rfl (fun r => K.pa r) [K.iv c.th, K.iv c.sl, K.iv c.lo, K.iv c.bu] (by kernel_rfl) ?_)
 intro w_1 r_2 hr_3 e_4 hs_5 b_6
 have c_7 := e_4
 have z_8 := c_7.size
 have zz_9 := e_4.size
 refine K.q [.bool false] (K.z (K.t (K.s ?_)))
 -- region 1 ref.go:11
 refine K.g (K.q [K.pa r_2] ?_)
 refine K.d (K.iv c.th) (b_6.cell rfl) ?_
 by_cases h_10 : (c.th : Int) ≥ (1 : Int)
 ·
  refine K.y ((c.th : Int) ≥ (1 : Int)) h_10 ?_
  refine K.q [.bool true, K.pa r_2] ?_
  refine K.d (K.iv c.th) (b_6.cell rfl) ?_
  by_cases h_11 : (c.th : Int) ≤ (64 : Int)
  ·
   refine K.y ((c.th : Int) ≤ (64 : Int)) h_11 ?_
   refine K.q [.bool true, .bool true, .pointer (some ⟨r_2, 1, none⟩)] ?_
   refine K.d (K.iv c.sl) (b_6.cell rfl) ?_
   by_cases h_12 : (c.sl : Int) ≥ (1 : Int)
   ·
    refine K.y ((c.sl : Int) ≥ (1 : Int)) h_12 ?_
    refine K.q [.bool true, .bool true, .pointer (some ⟨r_2, 1, none⟩)] ?_
    refine K.d (K.iv c.sl) (b_6.cell rfl) ?_
    by_cases h_13 : (c.sl : Int) ≤ (65536 : Int)
    ·
     refine K.y ((c.sl : Int) ≤ (65536 : Int)) h_13 ?_
     refine K.q [.bool true, .bool true, .pointer (some ⟨r_2, 2, none⟩)] ?_
     refine K.d (K.iv c.lo) (b_6.cell rfl) ?_
     by_cases h_14 : (c.lo : Int) ≥ (1 : Int)
     ·
      refine K.y ((c.lo : Int) ≥ (1 : Int)) h_14 ?_
      refine K.q [.bool true, .bool true, .pointer (some ⟨r_2, 2, none⟩)] ?_
      refine K.d (K.iv c.lo) (b_6.cell rfl) ?_
      by_cases h_15 : (c.lo : Int) ≤ (64 : Int)
      ·
       refine K.y ((c.lo : Int) ≤ (64 : Int)) h_15 ?_
       refine K.q [.bool true, .bool true, .pointer (some ⟨r_2, 3, none⟩)] ?_
       refine K.d (K.iv c.bu) (b_6.cell rfl) ?_
       by_cases h_16 : (c.bu : Int) ≥ (1 : Int)
       ·
        refine K.y ((c.bu : Int) ≥ (1 : Int)) h_16 ?_
        refine K.q [.bool true, .bool true, .pointer (some ⟨r_2, 3, none⟩)] ?_
        refine K.d (K.iv c.bu) (b_6.cell rfl) ?_
        by_cases h_17 : (c.bu : Int) ≤ (64 : Int)
        ·
         refine K.y ((c.bu : Int) ≤ (64 : Int)) h_17 ?_
         refine K.q [.bool true, .bool true] (K.z (K.t (K.r ?_)))
         refine ⟨.inr rfl, rfl, (.bool true), K.res1 rfl rfl, ?_⟩
         exact ⟨congrArg Value.bool (by first | exact (decide_eq_true (by unfold cfgOk; omega)).symm | exact (decide_eq_false (by unfold cfgOk; omega)).symm), c_7⟩
        ·
         refine K.x ((c.bu : Int) ≤ (64 : Int)) h_17 ?_
         refine K.q [.bool false, .bool false] (K.z (K.t (K.r ?_)))
         refine ⟨.inr rfl, rfl, (.bool false), K.res1 rfl rfl, ?_⟩
         exact ⟨congrArg Value.bool (by first | exact (decide_eq_true (by unfold cfgOk; omega)).symm | exact (decide_eq_false (by unfold cfgOk; omega)).symm), c_7⟩
       ·
        refine K.x ((c.bu : Int) ≥ (1 : Int)) h_16 ?_
        refine K.q [.bool false, .bool false] (K.n_ (K.n_ (K.n_ (K.q [.bool false, .bool false] (K.z (K.t (K.r ?_)))))))
        refine ⟨.inr rfl, rfl, (.bool false), K.res1 rfl rfl, ?_⟩
        exact ⟨congrArg Value.bool (by first | exact (decide_eq_true (by unfold cfgOk; omega)).symm | exact (decide_eq_false (by unfold cfgOk; omega)).symm), c_7⟩
      ·
       refine K.x ((c.lo : Int) ≤ (64 : Int)) h_15 ?_
       refine K.q [.bool false, .bool false] (K.n_ (K.n_ (K.n_ (K.q [.bool false, .bool false] (K.n_ (K.n_ (K.n_ (K.q [.bool false, .bool false] (K.z (K.t (K.r ?_)))))))))))
       refine ⟨.inr rfl, rfl, (.bool false), K.res1 rfl rfl, ?_⟩
       exact ⟨congrArg Value.bool (by first | exact (decide_eq_true (by unfold cfgOk; omega)).symm | exact (decide_eq_false (by unfold cfgOk; omega)).symm), c_7⟩
     ·
      refine K.x ((c.lo : Int) ≥ (1 : Int)) h_14 ?_
      refine K.q [.bool false, .bool false] (K.n_ (K.n_ (K.n_ (K.q [.bool false, .bool false] (K.n_ (K.n_ (K.n_ (K.q [.bool false, .bool false] (K.n_ (K.n_ (K.n_ ?_)))))))))))
      refine K.q [.bool false, .bool false] (K.z (K.t (K.r ?_)))
      refine ⟨.inr rfl, rfl, (.bool false), K.res1 rfl rfl, ?_⟩
      exact ⟨congrArg Value.bool (by first | exact (decide_eq_true (by unfold cfgOk; omega)).symm | exact (decide_eq_false (by unfold cfgOk; omega)).symm), c_7⟩
    ·
     refine K.x ((c.sl : Int) ≤ (65536 : Int)) h_13 ?_
     refine K.q [.bool false, .bool false] (K.n_ (K.n_ (K.n_ (K.q [.bool false, .bool false] (K.n_ (K.n_ (K.n_ (K.q [.bool false, .bool false] (K.n_ (K.n_ (K.n_ ?_)))))))))))
     refine K.q [.bool false, .bool false] (K.n_ (K.n_ (K.n_ (K.q [.bool false, .bool false] (K.z (K.t (K.r ?_)))))))
     refine ⟨.inr rfl, rfl, (.bool false), K.res1 rfl rfl, ?_⟩
     exact ⟨congrArg Value.bool (by first | exact (decide_eq_true (by unfold cfgOk; omega)).symm | exact (decide_eq_false (by unfold cfgOk; omega)).symm), c_7⟩
   ·
    refine K.x ((c.sl : Int) ≥ (1 : Int)) h_12 ?_
    refine K.q [.bool false, .bool false] (K.n_ (K.n_ (K.n_ (K.q [.bool false, .bool false] (K.n_ (K.n_ (K.n_ (K.q [.bool false, .bool false] (K.n_ (K.n_ (K.n_ ?_)))))))))))
    refine K.q [.bool false, .bool false] (K.n_ (K.n_ (K.n_ (K.q [.bool false, .bool false] (K.n_ (K.n_ (K.n_ (K.q [.bool false, .bool false] (K.z (K.t (K.r ?_)))))))))))
    refine ⟨.inr rfl, rfl, (.bool false), K.res1 rfl rfl, ?_⟩
    exact ⟨congrArg Value.bool (by first | exact (decide_eq_true (by unfold cfgOk; omega)).symm | exact (decide_eq_false (by unfold cfgOk; omega)).symm), c_7⟩
  ·
   refine K.x ((c.th : Int) ≤ (64 : Int)) h_11 ?_
   refine K.q [.bool false, .bool false] (K.n_ (K.n_ (K.n_ (K.q [.bool false, .bool false] (K.n_ (K.n_ (K.n_ (K.q [.bool false, .bool false] (K.n_ (K.n_ (K.n_ ?_)))))))))))
   refine K.q [.bool false, .bool false] (K.n_ (K.n_ (K.n_ (K.q [.bool false, .bool false] (K.n_ (K.n_ (K.n_ (K.q [.bool false, .bool false] (K.n_ (K.n_ (K.n_ ?_)))))))))))
   refine K.q [.bool false, .bool false] (K.z (K.t (K.r ?_)))
   refine ⟨.inr rfl, rfl, (.bool false), K.res1 rfl rfl, ?_⟩
   exact ⟨congrArg Value.bool (by first | exact (decide_eq_true (by unfold cfgOk; omega)).symm | exact (decide_eq_false (by unfold cfgOk; omega)).symm), c_7⟩
 ·
  refine K.x ((c.th : Int) ≥ (1 : Int)) h_10 ?_
  refine K.q [.bool false] (K.n_ (K.n_ (K.n_ (K.q [.bool false, .bool false] (K.n_ (K.n_ (K.n_ (K.q [.bool false, .bool false] (K.n_ (K.n_ (K.n_ (K.q [.bool false] ?_))))))))))))
  refine K.q [.bool false] (K.n_ (K.n_ (K.n_ (K.q [.bool false, .bool false] (K.n_ (K.n_ (K.n_ (K.q [.bool false, .bool false] (K.n_ (K.n_ (K.n_ (K.q [.bool false] ?_))))))))))))
  refine K.q [.bool false] (K.n_ (K.n_ (K.n_ (K.q [.bool false, .bool false] (K.z (K.t (K.r ?_)))))))
  refine ⟨.inr rfl, rfl, (.bool false), K.res1 rfl rfl, ?_⟩
  exact ⟨congrArg Value.bool (by first | exact (decide_eq_true (by unfold cfgOk; omega)).symm | exact (decide_eq_false (by unfold cfgOk; omega)).symm), c_7⟩
set_option maxHeartbeats 1000000 in
set_option maxRecDepth 100000 in
theorem linesOf_ok (n : Int) (w0 : World) (h : 1 ≤ n ∧ n ≤ 64) :
  K.KC Tryz.prog 111 #[K.iv n] w0 (fun v w' => v = K.iv ((n + 7) / 8) ∧ K.Chg K.No w0 w') := by
 refine K.KC.mk (n := 7) Tryz.func111 rfl rfl [K.iv n] rfl rfl ?_
 refine K.s ?_
 -- region 0 layout.go:46
 refine K.g (K.q [K.iv 0] (K.z (K.t (K.s ?_))))
 -- region 1 layout.go:46
 refine K.g (K.q [K.iv n] ?_)
 refine K.a (K.QR.n64 ((n : Int) + (8 : Int)) ((n : Int) + (8 : Int)) (by kernel_rfl) (by omega)) ?_
 refine K.a (K.QR.n64 (((n : Int) + (8 : Int) : Int) - (1 : Int)) (((n : Int) + (8 : Int) : Int) - (1 : Int)) (by kernel_rfl) (by omega)) ?_
 refine K.a (K.QR.quoi64 (((n : Int) + (8 : Int) : Int) - (1 : Int) : Int) 8 ((((n : Int) + (8 : Int) : Int) - (1 : Int) : Int) / 8) (by kernel_rfl) (by omega) (by omega)) ?_
 refine K.q [K.iv ((((n : Int) + (8 : Int) : Int) - (1 : Int) : Int) / 8)] (K.z (K.t (K.r ?_)))
 refine ⟨.inr rfl, rfl, (K.iv ((((n : Int) + (8 : Int) : Int) - (1 : Int) : Int) / 8)), K.res1 rfl rfl, ?_⟩
 exact ⟨congrArg (Value.int .i64) (by omega), (K.Chg.refl _)⟩
set_option maxHeartbeats 1000000 in
set_option maxRecDepth 100000 in
theorem of1_ok (b : Nat) (x n : Int) (w0 : World) (h : 0 ≤ x ∧ x ≤ 100000) (h2 : 0 ≤ n ∧ n ≤ 100000) (hb : K.Blk w0 b 3 [K.iv x]) :
  K.KC Tryz.prog 110 #[K.iv n, K.pa b] w0 (fun v w' => v = K.iv x ∧ K.Chg (K.Is b) w0 w' ∧ K.Blk w' b 3 [K.iv (x + n)]) := by
 refine K.KC.mk (n := 10) Tryz.func110 rfl rfl [K.iv n, K.pa b] rfl rfl ?_
 have c_0 : K.Chg (K.Is b) w0 w0 := (K.Chg.refl w0).mono fun _ _ h => h.elim
 refine K.s ?_
 -- region 0 layout.go:54
 refine K.g (K.q [K.iv 0] (K.z (K.t (K.s ?_))))
 -- region 1 layout.go:55
 refine K.g ?_
 refine K.d (K.iv x) (hb.cell rfl) ?_
 refine K.q [K.iv n] ?_
 refine K.a (K.QR.n64 ((x : Int) + (n : Int)) ((x : Int) + (n : Int)) (by kernel_rfl) (by omega)) ?_
 refine K.l (K.OW.st [K.iv ((x : Int) + (n : Int))] [K.iv ((x : Int) + (n : Int))] rfl rfl rfl (by kernel_rfl) hb rfl (K.one_cells (by rfl)) rfl rfl ?_)
 intro w_1 e_2 hs_3 b_4
 have c_5 := c_0.trans e_2 (fun i hi hy => hy)
 have z_6 := c_5.size
 have zz_7 := e_2.size
 refine K.z (K.t (K.s ?_))
 -- region 2 layout.go:56
 refine K.g ?_
 refine K.d (K.iv ((x : Int) + (n : Int))) (b_4.cell rfl) ?_
 refine K.q [K.iv n] ?_
 refine K.a (K.QR.n64 (((x : Int) + (n : Int) : Int) - (n : Int)) (((x : Int) + (n : Int) : Int) - (n : Int)) (by kernel_rfl) (by omega)) ?_
 refine K.q [K.iv (((x : Int) + (n : Int) : Int) - (n : Int))] (K.z (K.t (K.r ?_)))
 refine ⟨.inr rfl, rfl, (K.iv (((x : Int) + (n : Int) : Int) - (n : Int))), K.res1 rfl rfl, ?_⟩
 exact ⟨congrArg (Value.int .i64) (by omega), c_5, b_4⟩
set_option maxHeartbeats 1000000 in
set_option maxRecDepth 100000 in
theorem of_ok (c : Cfg) (w0 : World) :
  K.KC Tryz.prog 60 #[.agg #[K.iv c.th, K.iv c.sl, K.iv c.lo, K.iv c.bu]] w0 (fun v w' => (∃ b, v = .tuple #[K.pa b, K.iv 0] ∧ cfgOk c ∧ K.Chg K.No w0 w' ∧ w0.heap.size ≤ b ∧ LayB w' b c) ∨ (v = .tuple #[.pointer none, K.iv 1] ∧ ¬ cfgOk c ∧ K.Chg K.No w0 w')) := by
 refine K.KC.mk (n := 53) Tryz.func60 rfl rfl [.agg #[K.iv c.th, K.iv c.sl, K.iv c.lo, K.iv c.bu]] rfl rfl ?_
 refine K.s ?_
 -- region 0 layout.go:49
 refine K.g ?_
 refine K.l (K.OW.new (t := 23) rfl (fun r => K.pa r) [K.iv c.th, K.iv c.sl, K.iv c.lo, K.iv c.bu] (by kernel_rfl) ?_)
 intro w_1 r_2 hr_3 e_4 hs_5 b_6
 have c_7 := e_4
 have z_8 := c_7.size
 have zz_9 := e_4.size
 refine K.q [.pointer none, K.iv 0] (K.z (K.t (K.s (K.s ?_))))
 -- region 1 layout.go:50
 refine K.g ?_
 refine K.a (K.QR.ldN [K.iv c.th, K.iv c.sl, K.iv c.lo, K.iv c.bu] rfl rfl (by kernel_rfl) (by kernel_rfl) (K.cells (K.cl (b_6.cell rfl) (K.cl (b_6.cell rfl) (K.cl (b_6.cell rfl) (K.cl (b_6.cell rfl) K.cl0)))))) ?_
 refine K.l (K.OW.call rfl [.agg #[K.iv c.th, K.iv c.sl, K.iv c.lo, K.iv c.bu]] rfl rfl (by kernel_rfl) (sright_ok c _) ?_)
 rintro v_13 w_11 ⟨hv_12, c_10⟩
 have c_14 := c_7.no c_10
 have z_15 := c_14.size
 have zz_16 := c_10.size
 have f_17 := b_6.no c_10
 rcases Bool.eq_false_or_eq_true (decide (cfgOk c)) with hb_18 | hb_18
 ·
  rw [hb_18] at hv_12; subst hv_12
  have hp_19 := of_decide_eq_true hb_18
  refine K.q [.bool false] (K.z (K.t (K.f (K.k (K.t (K.s ?_))))))
  -- region 3 layout.go:53
  refine K.g ?_
  refine K.l (K.OW.new (t := 3) rfl (fun r => K.pa r) [K.iv 0] (by kernel_rfl) ?_)
  intro w_20 r_21 hr_22 e_23 hs_24 b_25
  have c_26 := c_14.no e_23
  have z_27 := c_26.size
  have zz_28 := e_23.size
  have f_29 := f_17.no e_23
  refine K.l (K.OW.st [K.iv 5] [K.iv 5] rfl rfl rfl (by kernel_rfl) b_25 rfl (K.one_cells (by rfl)) rfl rfl ?_)
  intro w_30 e_31 hs_32 b_33
  have c_34 := c_26.own e_31 (by omega)
  have z_35 := c_34.size
  have zz_36 := e_31.size
  have f_37 := f_29.chg e_31 (f_29.ne b_25 (by decide))
  refine K.z (K.t (K.s ?_))
  -- region 4 layout.go:54
  refine K.g ?_
  refine K.a (K.QR.fn [] [K.pa r_21] rfl rfl rfl) ?_
  refine K.q [.func (.func 110) [].toArray [K.pa r_21].toArray] (K.z (K.t (K.s ?_)))
  -- region 5 layout.go:58
  have hbd : cfgOk c := by assumption
  have hb2 := lsz_bd hbd
  have hb3 := tl_bd hbd
  unfold cfgOk at hbd
  unfold lsz at hb2
  unfold tl lsz at hb3
  refine K.g (K.q [.func (.func 110) [].toArray [K.pa r_21].toArray, .pointer (some ⟨r_2, 3, none⟩)] ?_)
  refine K.d (K.iv c.bu) (f_37.cell rfl) ?_
  refine K.l (K.OW.call rfl [K.iv c.bu] rfl rfl (by kernel_rfl) (linesOf_ok c.bu _ (by first | omega | (unfold cfgOk at *; omega))) ?_)
  rintro _ w_39 ⟨rfl, c_38⟩
  have c_40 := c_34.no c_38
  have z_41 := c_40.size
  have zz_42 := c_38.size
  have f_43 := f_37.no c_38
  have f_44 := b_33.no c_38
  refine K.l (K.OW.callv rfl [K.iv (((c.bu : Int) + 7) / 8), K.pa r_21] rfl rfl rfl (by kernel_rfl) (of1_ok _ 5 (((c.bu : Int) + 7) / 8) _ (by first | omega | (have := lay_bd (by assumption); omega)) (by first | omega | (have := lay_bd (by assumption); omega)) f_44) ?_)
  rintro _ w_47 ⟨rfl, c_45, b_46⟩
  have c_48 := c_40.own c_45 (by omega)
  have z_49 := c_48.size
  have zz_50 := c_45.size
  have f_51 := f_43.chg c_45 (f_43.ne f_44 (by decide))
  refine K.z (K.t (K.s ?_))
  -- region 6 layout.go:59
  refine K.KW.drawn (fun w => K.Chg K.No w0 w ∧ (w.cell? ⟨r_2, 0, none⟩ = some (K.iv c.th)) ∧ (w.cell? ⟨r_2, 1, none⟩ = some (K.iv c.sl)) ∧ (w.cell? ⟨r_2, 2, none⟩ = some (K.iv c.lo)) ∧ (w.cell? ⟨r_2, 3, none⟩ = some (K.iv c.bu))) (by kernel_rfl) ?_
  intro w_52 e_53 hs_54
  have c_56 := c_48.no e_53
  have z_57 := c_56.size
  have zz_58 := e_53.size
  have f_59 := f_51.no e_53
  have f_60 := b_46.no e_53
  have hS_55 : (fun w => K.Chg K.No w0 w ∧ (w.cell? ⟨r_2, 0, none⟩ = some (K.iv c.th)) ∧ (w.cell? ⟨r_2, 1, none⟩ = some (K.iv c.sl)) ∧ (w.cell? ⟨r_2, 2, none⟩ = some (K.iv c.lo)) ∧ (w.cell? ⟨r_2, 3, none⟩ = some (K.iv c.bu))) w_52 := ⟨c_56, ((f_59).cell rfl), ((f_59).cell rfl), ((f_59).cell rfl), ((f_59).cell rfl)⟩
  refine K.m 0 rfl (fun w hS => K.QR.ldN [K.iv c.th, K.iv c.sl, K.iv c.lo, K.iv c.bu] rfl rfl (by kernel_rfl) (by kernel_rfl) (K.cells (K.cl (hS.2.1) (K.cl (hS.2.2.1) (K.cl (hS.2.2.2.1) (K.cl (hS.2.2.2.2) K.cl0)))))) hS_55 ?_
  refine K.b 1 rfl (.pointer (some ⟨r_2, 2, none⟩)) hS_55 ?_
  refine K.c 2 rfl (K.QR.ld1 (v := K.iv c.lo) rfl rfl (by kernel_rfl) (f_59.cell rfl)) hS_55 ?_
  refine K.DW.l 3 rfl (by kernel_rfl) rfl (K.OW.call rfl [K.iv c.lo] rfl rfl (by kernel_rfl) (linesOf_ok c.lo _ (by first | omega | (unfold cfgOk at *; omega))) ?_)
  rintro _ w_62 ⟨rfl, c_61⟩
  have c_63 := c_56.no c_61
  have z_64 := c_63.size
  have zz_65 := c_61.size
  have f_66 := f_59.no c_61
  have f_67 := f_60.no c_61
  have hS_68 : (fun w => K.Chg K.No w0 w ∧ (w.cell? ⟨r_2, 0, none⟩ = some (K.iv c.th)) ∧ (w.cell? ⟨r_2, 1, none⟩ = some (K.iv c.sl)) ∧ (w.cell? ⟨r_2, 2, none⟩ = some (K.iv c.lo)) ∧ (w.cell? ⟨r_2, 3, none⟩ = some (K.iv c.bu))) w_62 := ⟨c_63, ((f_66).cell rfl), ((f_66).cell rfl), ((f_66).cell rfl), ((f_66).cell rfl)⟩
  refine ⟨.inl hS_68, ?_⟩
  refine K.c 4 rfl (K.QR.bd [(0, .agg #[K.iv c.th, K.iv c.sl, K.iv c.lo, K.iv c.bu]), (3, K.iv (((c.lo : Int) + 7) / 8))] [K.iv c.th, K.iv c.sl, K.iv c.lo, K.iv c.bu, K.iv 0, K.iv 0, K.iv (((c.lo : Int) + 7) / 8), K.iv 0, K.iv 0] rfl rfl (by kernel_rfl)) hS_68 ?_
  refine K.DW.l 5 rfl (by kernel_rfl) rfl (K.OW.new (t := 189) rfl (fun r => K.pa r) [K.iv c.th, K.iv c.sl, K.iv c.lo, K.iv c.bu, K.iv 0, K.iv 0, K.iv (((c.lo : Int) + 7) / 8), K.iv 0, K.iv 0] (by kernel_rfl) ?_)
  intro w_69 r_70 hr_71 e_72 hs_73 b_74
  have c_75 := c_63.no e_72
  have z_76 := c_75.size
  have zz_77 := e_72.size
  have f_78 := f_66.no e_72
  have f_79 := f_67.no e_72
  have hS_80 : (fun w => K.Chg K.No w0 w ∧ (w.cell? ⟨r_2, 0, none⟩ = some (K.iv c.th)) ∧ (w.cell? ⟨r_2, 1, none⟩ = some (K.iv c.sl)) ∧ (w.cell? ⟨r_2, 2, none⟩ = some (K.iv c.lo)) ∧ (w.cell? ⟨r_2, 3, none⟩ = some (K.iv c.bu))) w_69 := ⟨c_75, ((f_78).cell rfl), ((f_78).cell rfl), ((f_78).cell rfl), ((f_78).cell rfl)⟩
  refine ⟨.inl hS_80, ?_⟩
  refine K.b 6 rfl (K.pa r_70) hS_80 ?_
  refine K.DW.done (by kernel_rfl) ?_
  refine K.t (K.s ?_)
  -- region 7 layout.go:60
  refine K.g (K.q [K.pa r_70, .func (.func 110) [].toArray [K.pa r_21].toArray, K.pa r_2] ?_)
  refine K.d (K.iv c.th) (f_78.cell rfl) ?_
  refine K.l (K.OW.callv rfl [K.iv c.th, K.pa r_21] rfl rfl rfl (by kernel_rfl) (of1_ok _ ((5 : Int) + (((c.bu : Int) + 7) / 8)) c.th _ (by first | omega | (have := lay_bd (by assumption); omega)) (by first | omega | (have := lay_bd (by assumption); omega)) f_79) ?_)
  rintro _ w_83 ⟨rfl, c_81, b_82⟩
  have c_84 := c_75.own c_81 (by omega)
  have z_85 := c_84.size
  have zz_86 := c_81.size
  have f_87 := f_78.chg c_81 (f_78.ne f_79 (by decide))
  have f_88 := b_74.chg c_81 (b_74.ne f_79 (by decide))
  refine K.q [K.pa r_70, .pointer (some ⟨r_70, 4, none⟩)] ?_
  refine K.l (K.OW.st [K.iv ((5 : Int) + (((c.bu : Int) + 7) / 8))] [K.iv c.th, K.iv c.sl, K.iv c.lo, K.iv c.bu, K.iv ((5 : Int) + (((c.bu : Int) + 7) / 8)), K.iv 0, K.iv (((c.lo : Int) + 7) / 8), K.iv 0, K.iv 0] rfl rfl rfl (by kernel_rfl) f_88 rfl (K.one_cells (by rfl)) rfl rfl ?_)
  intro w_89 e_90 hs_91 b_92
  have c_93 := c_84.own e_90 (by omega)
  have z_94 := c_93.size
  have zz_95 := e_90.size
  have f_96 := f_87.chg e_90 (f_87.ne f_88 (by decide))
  have f_97 := b_82.chg e_90 (b_82.ne f_88 (by decide))
  refine K.z (K.t (K.s ?_))
  -- region 8 layout.go:61
  refine K.KW.drawn (fun w => K.Chg K.No w0 w ∧ (w.cell? ⟨r_2, 0, none⟩ = some (K.iv c.th))) (by kernel_rfl) ?_
  intro w_98 e_99 hs_100
  have c_102 := c_93.no e_99
  have z_103 := c_102.size
  have zz_104 := e_99.size
  have f_105 := f_96.no e_99
  have f_106 := f_97.no e_99
  have f_107 := b_92.no e_99
  have hS_101 : (fun w => K.Chg K.No w0 w ∧ (w.cell? ⟨r_2, 0, none⟩ = some (K.iv c.th))) w_98 := ⟨c_102, ((f_105).cell rfl)⟩
  refine K.p 0 rfl (K.pa r_70) hS_101 ?_
  refine K.p 1 rfl (.func (.func 110) [].toArray [K.pa r_21].toArray) hS_101 ?_
  refine K.p 2 rfl (K.pa r_2) hS_101 ?_
  refine K.o_ 3 rfl (K.iv c.th) (fun w hS => (hS.2)) hS_101 ?_
  refine K.b 4 rfl (K.pa r_70) hS_101 ?_
  refine K.b 5 rfl (K.pa r_70) hS_101 ?_
  refine K.b 6 rfl (.pointer (some ⟨r_70, 6, none⟩)) hS_101 ?_
  refine K.c 7 rfl (K.QR.ld1 (v := K.iv (((c.lo : Int) + 7) / 8)) rfl rfl (by kernel_rfl) (f_107.cell rfl)) hS_101 ?_
  refine K.c 8 rfl (K.QR.n64 ((c.th : Int) * (((c.lo : Int) + 7) / 8 : Int)) ((c.th : Int) * (((c.lo : Int) + 7) / 8 : Int)) (by kernel_rfl) (by omega)) hS_101 ?_
  refine K.DW.l 9 rfl (by kernel_rfl) rfl (K.OW.callv rfl [K.iv ((c.th : Int) * (((c.lo : Int) + 7) / 8 : Int)), K.pa r_21] rfl rfl rfl (by kernel_rfl) (of1_ok _ (((5 : Int) + (((c.bu : Int) + 7) / 8) : Int) + c.th) ((c.th : Int) * (((c.lo : Int) + 7) / 8 : Int)) _ (by first | omega | (have := lay_bd (by assumption); omega)) (by first | omega | (have := lay_bd (by assumption); omega)) f_106) ?_)
  rintro _ w_110 ⟨rfl, c_108, b_109⟩
  have c_111 := c_102.own c_108 (by omega)
  have z_112 := c_111.size
  have zz_113 := c_108.size
  have f_114 := f_105.chg c_108 (f_105.ne f_106 (by decide))
  have f_115 := f_107.chg c_108 (f_107.ne f_106 (by decide))
  have hS_116 : (fun w => K.Chg K.No w0 w ∧ (w.cell? ⟨r_2, 0, none⟩ = some (K.iv c.th))) w_110 := ⟨c_111, ((f_114).cell rfl)⟩
  refine ⟨.inl hS_116, ?_⟩
  refine K.b 10 rfl (K.pa r_70) hS_116 ?_
  refine K.b 11 rfl (.pointer (some ⟨r_70, 5, none⟩)) hS_116 ?_
  refine K.DW.l 12 rfl (by kernel_rfl) rfl (K.OW.st [K.iv (((5 : Int) + (((c.bu : Int) + 7) / 8) : Int) + c.th)] [K.iv c.th, K.iv c.sl, K.iv c.lo, K.iv c.bu, K.iv ((5 : Int) + (((c.bu : Int) + 7) / 8)), K.iv (((5 : Int) + (((c.bu : Int) + 7) / 8) : Int) + c.th), K.iv (((c.lo : Int) + 7) / 8), K.iv 0, K.iv 0] rfl rfl rfl (by kernel_rfl) f_115 rfl (K.one_cells (by rfl)) rfl rfl ?_)
  intro w_117 e_118 hs_119 b_120
  have c_121 := c_111.own e_118 (by omega)
  have z_122 := c_121.size
  have zz_123 := e_118.size
  have f_124 := f_114.chg e_118 (f_114.ne f_115 (by decide))
  have f_125 := b_109.chg e_118 (b_109.ne f_115 (by decide))
  refine ⟨.inr (by kernel_rfl), ?_⟩
  refine K.DW.done (by kernel_rfl) ?_
  refine K.t (K.s ?_)
  -- region 9 layout.go:62
  refine K.g (K.q [K.pa r_70, .func (.func 110) [].toArray [K.pa r_21].toArray, .pointer (some ⟨r_2, 1, none⟩)] ?_)
  refine K.d (K.iv c.sl) (f_124.cell rfl) ?_
  refine K.l (K.OW.callv rfl [K.iv c.sl, K.pa r_21] rfl rfl rfl (by kernel_rfl) (of1_ok _ ((((5 : Int) + (((c.bu : Int) + 7) / 8) : Int) + c.th : Int) + ((c.th : Int) * (((c.lo : Int) + 7) / 8 : Int))) c.sl _ (by first | omega | (have := lay_bd (by assumption); omega)) (by first | omega | (have := lay_bd (by assumption); omega)) f_125) ?_)
  rintro _ w_129 ⟨rfl, c_127, b_128⟩
  have c_130 := c_121.own c_127 (by omega)
  have z_131 := c_130.size
  have zz_132 := c_127.size
  have f_133 := f_124.chg c_127 (f_124.ne f_125 (by decide))
  have f_134 := b_120.chg c_127 (b_120.ne f_125 (by decide))
  refine K.q [K.pa r_70, .pointer (some ⟨r_70, 7, none⟩)] ?_
  refine K.l (K.OW.st [K.iv ((((5 : Int) + (((c.bu : Int) + 7) / 8) : Int) + c.th : Int) + ((c.th : Int) * (((c.lo : Int) + 7) / 8 : Int)))] [K.iv c.th, K.iv c.sl, K.iv c.lo, K.iv c.bu, K.iv ((5 : Int) + (((c.bu : Int) + 7) / 8)), K.iv (((5 : Int) + (((c.bu : Int) + 7) / 8) : Int) + c.th), K.iv (((c.lo : Int) + 7) / 8), K.iv ((((5 : Int) + (((c.bu : Int) + 7) / 8) : Int) + c.th : Int) + ((c.th : Int) * (((c.lo : Int) + 7) / 8 : Int))), K.iv 0] rfl rfl rfl (by kernel_rfl) f_134 rfl (K.one_cells (by rfl)) rfl rfl ?_)
  intro w_135 e_136 hs_137 b_138
  have c_139 := c_130.own e_136 (by omega)
  have z_140 := c_139.size
  have zz_141 := e_136.size
  have f_142 := f_133.chg e_136 (f_133.ne f_134 (by decide))
  have f_143 := b_128.chg e_136 (b_128.ne f_134 (by decide))
  refine K.z (K.t (K.s ?_))
  -- region 10 layout.go:63
  refine K.g (K.q [K.pa r_70] ?_)
  refine K.d (K.iv (((((5 : Int) + (((c.bu : Int) + 7) / 8) : Int) + c.th : Int) + ((c.th : Int) * (((c.lo : Int) + 7) / 8 : Int)) : Int) + c.sl)) (f_143.cell rfl) ?_
  refine K.q [K.pa r_70, .pointer (some ⟨r_70, 8, none⟩)] ?_
  refine K.l (K.OW.st [K.iv (((((5 : Int) + (((c.bu : Int) + 7) / 8) : Int) + c.th : Int) + ((c.th : Int) * (((c.lo : Int) + 7) / 8 : Int)) : Int) + c.sl)] [K.iv c.th, K.iv c.sl, K.iv c.lo, K.iv c.bu, K.iv ((5 : Int) + (((c.bu : Int) + 7) / 8)), K.iv (((5 : Int) + (((c.bu : Int) + 7) / 8) : Int) + c.th), K.iv (((c.lo : Int) + 7) / 8), K.iv ((((5 : Int) + (((c.bu : Int) + 7) / 8) : Int) + c.th : Int) + ((c.th : Int) * (((c.lo : Int) + 7) / 8 : Int))), K.iv (((((5 : Int) + (((c.bu : Int) + 7) / 8) : Int) + c.th : Int) + ((c.th : Int) * (((c.lo : Int) + 7) / 8 : Int)) : Int) + c.sl)] rfl rfl rfl (by kernel_rfl) b_138 rfl (K.one_cells (by rfl)) rfl rfl ?_)
  intro w_144 e_145 hs_146 b_147
  have c_148 := c_139.own e_145 (by omega)
  have z_149 := c_148.size
  have zz_150 := e_145.size
  have f_151 := f_142.chg e_145 (f_142.ne b_138 (by decide))
  have f_152 := f_143.chg e_145 (f_143.ne b_138 (by decide))
  refine K.z (K.t (K.s ?_))
  -- region 11 layout.go:64
  refine K.g (K.q [K.pa r_70, K.pa r_70, K.iv 0] (K.z (K.t (K.r ?_))))
  refine ⟨.inr rfl, rfl, (.tuple #[K.pa r_70, K.iv 0]), K.res2 rfl rfl rfl, ?_⟩
  refine .inl ⟨_, rfl, by assumption, c_148, by omega, ?_⟩
  have hfin := b_147
  unfold LayB
  simp only [tFirst, lFirst, sFirst, lns, lsz, tl, Int.add_assoc] at hfin ⊢
  exact hfin
 ·
  rw [hb_18] at hv_12; subst hv_12
  have hp_153 := of_decide_eq_false hb_18
  refine K.q [.bool true] (K.z (K.t (K.h (K.s ?_))))
  -- region 2 layout.go:51
  refine K.g (K.q [.pointer none, K.iv 1] (K.z (K.t (K.r (K.u ?_)))))
  refine ⟨.inr rfl, rfl, (.tuple #[.pointer none, K.iv 1]), K.res2 rfl rfl rfl, ?_⟩
  exact .inr ⟨rfl, by assumption, c_14⟩
set_option maxHeartbeats 1000000 in
set_option maxRecDepth 100000 in
theorem lConfig (b : Nat) (c : Cfg) (w0 : World) (hc : cfgOk c) (hb : LayB w0 b c) :
  K.KC Tryz.prog 71 #[K.pa b] w0 (fun v w' => v = .agg #[K.iv c.th, K.iv c.sl, K.iv c.lo, K.iv c.bu] ∧ K.Chg K.No w0 w') := by
 have hbd := lay_bd hc
 have hcc := hc
 unfold cfgOk at hcc
 refine K.KC.mk (n := 10) Tryz.func71 rfl rfl [K.pa b] rfl rfl ?_
 refine K.s ?_
 -- region 0 layout.go:68
 refine K.g ?_
 refine K.l (K.OW.new (t := 23) rfl (fun r => K.pa r) [K.iv 0, K.iv 0, K.iv 0, K.iv 0] (by kernel_rfl) ?_)
 intro w_1 r_2 hr_3 e_4 hs_5 b_6
 have c_7 := e_4
 have z_8 := c_7.size
 have zz_9 := e_4.size
 refine K.z (K.t (K.s (K.s ?_)))
 -- region 1 layout.go:69
 refine K.g (K.q [K.pa b, .bool false] (K.z (K.t (K.f (K.k (K.t (K.s ?_)))))))
 -- region 3 layout.go:72
 refine K.g (K.q [K.pa b, K.pa b, K.pa b] ?_)
 refine K.a (K.QR.ldN [K.iv c.th, K.iv c.sl, K.iv c.lo, K.iv c.bu] rfl rfl (by kernel_rfl) (by kernel_rfl) (K.cells (K.cl (c_7.cell (hb.cell rfl) id) (K.cl (c_7.cell (hb.cell rfl) id) (K.cl (c_7.cell (hb.cell rfl) id) (K.cl (c_7.cell (hb.cell rfl) id) K.cl0)))))) ?_
 refine K.l (K.OW.st [K.iv c.th, K.iv c.sl, K.iv c.lo, K.iv c.bu] [K.iv c.th, K.iv c.sl, K.iv c.lo, K.iv c.bu] rfl rfl rfl (by kernel_rfl) b_6 rfl (K.one_cells (by rfl)) rfl rfl ?_)
 intro w_10 e_11 hs_12 b_13
 have c_14 := c_7.own e_11 (by omega)
 have z_15 := c_14.size
 have zz_16 := e_11.size
 refine K.z (K.t (K.r ?_))
 refine ⟨.inr rfl, rfl, (.agg #[K.iv c.th, K.iv c.sl, K.iv c.lo, K.iv c.bu]), K.resAt (rs := [.cell 2 23]) [.agg #[K.iv c.th, K.iv c.sl, K.iv c.lo, K.iv c.bu]] rfl ⟨⟨_, rfl, K.lvN [K.iv c.th, K.iv c.sl, K.iv c.lo, K.iv c.bu] (by kernel_rfl) (by kernel_rfl) (K.cells (K.cl (b_13.cell rfl) (K.cl (b_13.cell rfl) (K.cl (b_13.cell rfl) (K.cl (b_13.cell rfl) K.cl0)))))⟩, trivial⟩, ?_⟩
 exact ⟨rfl, c_14⟩
set_option maxHeartbeats 1000000 in
set_option maxRecDepth 100000 in
theorem lLines (b : Nat) (c : Cfg) (w0 : World) (hc : cfgOk c) (hb : LayB w0 b c) :
  K.KC Tryz.prog 150 #[K.pa b] w0 (fun v w' => v = K.iv (lns c) ∧ K.Chg K.No w0 w') := by
 have hbd := lay_bd hc
 have hcc := hc
 unfold cfgOk at hcc
 refine K.KC.mk (n := 9) Tryz.func150 rfl rfl [K.pa b] rfl rfl ?_
 refine K.s ?_
 -- region 0 layout.go:76
 refine K.g (K.q [K.iv 0] (K.z (K.t (K.s (K.s ?_)))))
 -- region 1 layout.go:77
 refine K.g (K.q [K.pa b, .bool false] (K.z (K.t (K.f (K.k (K.t (K.s ?_)))))))
 -- region 3 layout.go:80
 refine K.g (K.q [K.pa b, K.pa b, .pointer (some ⟨b, 8, none⟩)] ?_)
 refine K.d (K.iv (lns c)) (hb.cell rfl) ?_
 refine K.q [K.iv (lns c)] (K.z (K.t (K.r ?_)))
 refine ⟨.inr rfl, rfl, (K.iv (lns c)), K.res1 rfl rfl, ?_⟩
 exact ⟨congrArg (Value.int .i64) (by first | rfl | omega | (unfold lns; (repeat' split) <;> omega)), (K.Chg.refl _)⟩
set_option maxHeartbeats 1000000 in
set_option maxRecDepth 100000 in
theorem lpass (b : Nat) (c : Cfg) (n : Int) (w0 : World) (hc : cfgOk c) (hn : 0 ≤ n ∧ n ≤ 1000000) (hb : LayB w0 b c) :
  K.KC Tryz.prog 148 #[K.pa b, K.iv n] w0 (fun v w' => v = K.iv (-1 - n) ∧ K.Chg K.No w0 w') := by
 have hbd := lay_bd hc
 have hcc := hc
 unfold cfgOk at hcc
 refine K.KC.mk (n := 9) Tryz.func148 rfl rfl [K.pa b, K.iv n] rfl rfl ?_
 refine K.s ?_
 -- region 0 layout.go:177
 refine K.g (K.q [K.iv 0] (K.z (K.t (K.s (K.s ?_)))))
 -- region 1 layout.go:178
 refine K.g (K.q [K.pa b, .bool false] (K.z (K.t (K.f (K.k (K.t (K.s ?_)))))))
 -- region 3 layout.go:181
 refine K.g (K.q [K.iv n] ?_)
 refine K.a (K.QR.n64 (((-1) : Int) - (n : Int)) (((-1) : Int) - (n : Int)) (by kernel_rfl) (by omega)) ?_
 refine K.q [K.iv (((-1) : Int) - (n : Int))] (K.z (K.t (K.r ?_)))
 refine ⟨.inr rfl, rfl, (K.iv (((-1) : Int) - (n : Int))), K.res1 rfl rfl, ?_⟩
 exact ⟨congrArg (Value.int .i64) (by first | rfl | omega | (unfold cfgOk; (repeat' split) <;> omega)), (K.Chg.refl _)⟩
set_option maxHeartbeats 1000000 in
set_option maxRecDepth 100000 in
theorem lEpoch (b : Nat) (c : Cfg) (w0 : World) (hc : cfgOk c) (hb : LayB w0 b c) :
  K.KC Tryz.prog 207 #[K.pa b] w0 (fun v w' => v = K.iv (-1) ∧ K.Chg K.No w0 w') := by
 have hbd := lay_bd hc
 have hcc := hc
 unfold cfgOk at hcc
 refine K.KC.mk (n := 5) Tryz.func207 rfl rfl [K.pa b] rfl rfl ?_
 refine K.s ?_
 -- region 0 layout.go:185
 refine K.g (K.q [K.iv 0] (K.z (K.t (K.s ?_))))
 -- region 1 layout.go:185
 refine K.g (K.q [K.pa b] ?_)
 refine K.l (K.OW.call rfl [K.pa b, K.iv 0] rfl rfl (by kernel_rfl) (lpass _ c 0 _ (by assumption) (by first | omega | (have := lay_bd (by assumption); unfold cfgOk at *; omega)) hb) ?_)
 rintro _ w_2 ⟨rfl, c_1⟩
 have c_3 := c_1
 have z_4 := c_3.size
 have zz_5 := c_1.size
 refine K.q [K.iv (-1 - (0))] (K.z (K.t (K.r ?_)))
 refine ⟨.inr rfl, rfl, (K.iv (-1 - (0))), K.res1 rfl rfl, ?_⟩
 exact ⟨congrArg (Value.int .i64) (by first | rfl | omega | (unfold cfgOk; (repeat' split) <;> omega)), c_3⟩
set_option maxHeartbeats 1000000 in
set_option maxRecDepth 100000 in
theorem lFree (b : Nat) (c : Cfg) (w0 : World) (hc : cfgOk c) (hb : LayB w0 b c) :
  K.KC Tryz.prog 100 #[K.pa b] w0 (fun v w' => v = K.iv (-2) ∧ K.Chg K.No w0 w') := by
 have hbd := lay_bd hc
 have hcc := hc
 unfold cfgOk at hcc
 refine K.KC.mk (n := 5) Tryz.func100 rfl rfl [K.pa b] rfl rfl ?_
 refine K.s ?_
 -- region 0 layout.go:188
 refine K.g (K.q [K.iv 0] (K.z (K.t (K.s ?_))))
 -- region 1 layout.go:188
 refine K.g (K.q [K.pa b] ?_)
 refine K.l (K.OW.call rfl [K.pa b, K.iv 1] rfl rfl (by kernel_rfl) (lpass _ c 1 _ (by assumption) (by first | omega | (have := lay_bd (by assumption); unfold cfgOk at *; omega)) hb) ?_)
 rintro _ w_2 ⟨rfl, c_1⟩
 have c_3 := c_1
 have z_4 := c_3.size
 have zz_5 := c_1.size
 refine K.q [K.iv (-1 - (1))] (K.z (K.t (K.r ?_)))
 refine ⟨.inr rfl, rfl, (K.iv (-1 - (1))), K.res1 rfl rfl, ?_⟩
 exact ⟨congrArg (Value.int .i64) (by first | rfl | omega | (unfold cfgOk; (repeat' split) <;> omega)), c_3⟩
set_option maxHeartbeats 1000000 in
set_option maxRecDepth 100000 in
theorem lword (b : Nat) (c : Cfg) (n many first size at_ : Int) (w0 : World) (hc : cfgOk c) (h1 : many ≤ 65536) (h2 : 0 ≤ first ∧ first ≤ 100000) (h3 : 0 ≤ size ∧ size ≤ 8) (h4 : 0 ≤ at_ ∧ at_ ≤ 100) (hb : LayB w0 b c) :
  K.KC Tryz.prog 140 #[K.pa b, K.iv n, K.iv many, K.iv first, K.iv size, K.iv at_] w0 (fun v w' => v = K.iv (wordS c n many first size at_) ∧ K.Chg K.No w0 w') := by
 have hbd := lay_bd hc
 have hcc := hc
 unfold cfgOk at hcc
 refine K.KC.mk (n := 32) Tryz.func140 rfl rfl [K.pa b, K.iv n, K.iv many, K.iv first, K.iv size, K.iv at_] rfl rfl ?_
 refine K.s ?_
 -- region 0 layout.go:95
 refine K.g (K.q [K.iv 0] (K.z (K.t (K.s (K.s ?_)))))
 -- region 1 layout.go:96
 refine K.g (K.q [K.pa b, .bool false, .bool false, K.iv n, K.iv many] ?_)
 refine K.l (K.OW.call rfl [K.iv n, K.iv many] rfl rfl (by kernel_rfl) (has_ok n many _) ?_)
 rintro v_4 w_2 ⟨hv_3, c_1⟩
 have c_5 := c_1
 have z_6 := c_5.size
 have zz_7 := c_1.size
 rcases Bool.eq_false_or_eq_true (decide (0 ≤ (n : Int) ∧ (n : Int) < (many : Int))) with hb_8 | hb_8
 ·
  rw [hb_8] at hv_3; subst hv_3
  have hp_9 := of_decide_eq_true hb_8
  refine K.q [.bool false, .bool false] (K.z (K.t (K.f (K.k (K.t (K.s ?_))))))
  -- region 3 layout.go:99
  have hmu := mul_bd (a := size) (b := n) (A := 8) (B := 65536) (by omega) (by omega) (by omega) (by omega)
  refine K.g (K.q [K.iv first, K.iv size, K.iv n] ?_)
  refine K.a (K.QR.n64 ((size : Int) * (n : Int)) ((size : Int) * (n : Int)) (by kernel_rfl) (by omega)) ?_
  refine K.a (K.QR.n64 ((first : Int) + ((size : Int) * (n : Int) : Int)) ((first : Int) + ((size : Int) * (n : Int) : Int)) (by kernel_rfl) (by omega)) ?_
  refine K.a (K.QR.n64 (((first : Int) + ((size : Int) * (n : Int) : Int) : Int) * (8 : Int)) (((first : Int) + ((size : Int) * (n : Int) : Int) : Int) * (8 : Int)) (by kernel_rfl) (by omega)) ?_
  refine K.q [K.iv at_] ?_
  refine K.a (K.QR.n64 ((((first : Int) + ((size : Int) * (n : Int) : Int) : Int) * (8 : Int) : Int) + (at_ : Int)) ((((first : Int) + ((size : Int) * (n : Int) : Int) : Int) * (8 : Int) : Int) + (at_ : Int)) (by kernel_rfl) (by omega)) ?_
  refine K.q [K.iv ((((first : Int) + ((size : Int) * (n : Int) : Int) : Int) * (8 : Int) : Int) + (at_ : Int))] (K.z (K.t (K.r ?_)))
  refine ⟨.inr rfl, rfl, (K.iv ((((first : Int) + ((size : Int) * (n : Int) : Int) : Int) * (8 : Int) : Int) + (at_ : Int))), K.res1 rfl rfl, ?_⟩
  exact ⟨congrArg (Value.int .i64) (by first | rfl | omega | (unfold wordS; (repeat' split) <;> omega)), c_5⟩
 ·
  rw [hb_8] at hv_3; subst hv_3
  have hp_10 := of_decide_eq_false hb_8
  refine K.q [.bool true, .bool true] (K.z (K.t (K.h (K.s ?_))))
  -- region 2 layout.go:97
  refine K.g (K.q [K.pa b] ?_)
  refine K.l (K.OW.call rfl [K.pa b] rfl rfl (by kernel_rfl) (lLines _ c  _ (by assumption) (hb.no c_5)) ?_)
  rintro _ w_12 ⟨rfl, c_11⟩
  have c_13 := c_5.no c_11
  have z_14 := c_13.size
  have zz_15 := c_11.size
  refine K.a (K.QR.n64 (((lns c) : Int) * (8 : Int)) (((lns c) : Int) * (8 : Int)) (by kernel_rfl) (by omega)) ?_
  refine K.q [K.iv (((lns c) : Int) * (8 : Int))] (K.z (K.t (K.r (K.u ?_))))
  refine ⟨.inr rfl, rfl, (K.iv (((lns c) : Int) * (8 : Int))), K.res1 rfl rfl, ?_⟩
  exact ⟨congrArg (Value.int .i64) (by first | rfl | omega | (unfold wordS; (repeat' split) <;> omega)), c_13⟩
set_option maxHeartbeats 1000000 in
set_option maxRecDepth 100000 in
theorem lthread (b : Nat) (c : Cfg) (t at_ : Int) (w0 : World) (hc : cfgOk c) (h4 : 0 ≤ at_ ∧ at_ ≤ 100) (hb : LayB w0 b c) :
  K.KC Tryz.prog 151 #[K.pa b, K.iv t, K.iv at_] w0 (fun v w' => v = K.iv (threadS c t at_) ∧ K.Chg K.No w0 w') := by
 have hbd := lay_bd hc
 have hcc := hc
 unfold cfgOk at hcc
 refine K.KC.mk (n := 22) Tryz.func151 rfl rfl [K.pa b, K.iv t, K.iv at_] rfl rfl ?_
 refine K.s ?_
 -- region 0 layout.go:135
 refine K.g (K.q [K.iv 0] (K.z (K.t (K.s (K.s ?_)))))
 -- region 1 layout.go:136
 refine K.g (K.q [K.pa b, .bool false] (K.z (K.t (K.f (K.k (K.t (K.s ?_)))))))
 -- region 3 layout.go:139
 refine K.KW.drawn (fun w => K.Chg K.No w0 w) (by kernel_rfl) ?_
 intro w_1 e_2 hs_3
 have c_5 := e_2
 have z_6 := c_5.size
 have zz_7 := e_2.size
 have hS_4 : (fun w => K.Chg K.No w0 w) w_1 := c_5
 refine K.p 0 rfl (K.pa b) hS_4 ?_
 refine K.p 1 rfl (K.iv t) hS_4 ?_
 refine K.p 2 rfl (K.pa b) hS_4 ?_
 refine K.p 3 rfl (K.pa b) hS_4 ?_
 refine K.p 4 rfl (K.pa b) hS_4 ?_
 refine K.p 5 rfl (K.pa b) hS_4 ?_
 refine K.o_ 6 rfl (K.iv c.th) (fun w hS => (hS.cell (hb.cell rfl) id)) hS_4 ?_
 refine K.p 7 rfl (K.pa b) hS_4 ?_
 refine K.p 8 rfl (K.pa b) hS_4 ?_
 refine K.p 9 rfl (.pointer (some ⟨b, 4, none⟩)) hS_4 ?_
 refine K.o_ 10 rfl (K.iv (tFirst c)) (fun w hS => (hS.cell (hb.cell rfl) id)) hS_4 ?_
 refine K.b 11 rfl (K.iv at_) hS_4 ?_
 refine K.DW.l 12 rfl (by kernel_rfl) rfl (K.OW.call rfl [K.pa b, K.iv t, K.iv c.th, K.iv (tFirst c), K.iv 1, K.iv at_] rfl rfl (by kernel_rfl) (lword _ c t c.th (tFirst c) 1 at_ _ (by assumption) (by first | omega | (have := lay_bd (by assumption); unfold cfgOk at *; omega)) (by first | omega | (have := lay_bd (by assumption); unfold cfgOk at *; omega)) (by first | omega | (have := lay_bd (by assumption); unfold cfgOk at *; omega)) (by first | omega | (have := lay_bd (by assumption); unfold cfgOk at *; omega)) (hb.no c_5)) ?_)
 rintro _ w_9 ⟨rfl, c_8⟩
 have c_10 := c_5.no c_8
 have z_11 := c_10.size
 have zz_12 := c_8.size
 have hS_13 : (fun w => K.Chg K.No w0 w) w_9 := c_10
 refine ⟨.inl hS_13, ?_⟩
 refine K.b 13 rfl (K.iv (wordS c (t) (c.th) ((tFirst c)) (1) (at_))) hS_13 ?_
 refine K.DW.done (by kernel_rfl) ?_
 refine K.t (K.r ?_)
 refine ⟨.inr rfl, rfl, (K.iv (wordS c (t) (c.th) ((tFirst c)) (1) (at_))), K.res1 rfl rfl, ?_⟩
 exact ⟨congrArg (Value.int .i64) (by first | rfl | omega | (unfold threadS; (repeat' split) <;> omega)), c_10⟩
set_option maxHeartbeats 1000000 in
set_option maxRecDepth 100000 in
theorem lslot (b : Nat) (c : Cfg) (s at_ : Int) (w0 : World) (hc : cfgOk c) (h4 : 0 ≤ at_ ∧ at_ ≤ 100) (hb : LayB w0 b c) :
  K.KC Tryz.prog 94 #[K.pa b, K.iv s, K.iv at_] w0 (fun v w' => v = K.iv (slotS c s at_) ∧ K.Chg K.No w0 w') := by
 have hbd := lay_bd hc
 have hcc := hc
 unfold cfgOk at hcc
 refine K.KC.mk (n := 22) Tryz.func94 rfl rfl [K.pa b, K.iv s, K.iv at_] rfl rfl ?_
 refine K.s ?_
 -- region 0 layout.go:154
 refine K.g (K.q [K.iv 0] (K.z (K.t (K.s (K.s ?_)))))
 -- region 1 layout.go:155
 refine K.g (K.q [K.pa b, .bool false] (K.z (K.t (K.f (K.k (K.t (K.s ?_)))))))
 -- region 3 layout.go:158
 refine K.KW.drawn (fun w => K.Chg K.No w0 w) (by kernel_rfl) ?_
 intro w_1 e_2 hs_3
 have c_5 := e_2
 have z_6 := c_5.size
 have zz_7 := e_2.size
 have hS_4 : (fun w => K.Chg K.No w0 w) w_1 := c_5
 refine K.p 0 rfl (K.pa b) hS_4 ?_
 refine K.p 1 rfl (K.iv s) hS_4 ?_
 refine K.p 2 rfl (K.pa b) hS_4 ?_
 refine K.p 3 rfl (K.pa b) hS_4 ?_
 refine K.p 4 rfl (K.pa b) hS_4 ?_
 refine K.p 5 rfl (.pointer (some ⟨b, 1, none⟩)) hS_4 ?_
 refine K.o_ 6 rfl (K.iv c.sl) (fun w hS => (hS.cell (hb.cell rfl) id)) hS_4 ?_
 refine K.p 7 rfl (K.pa b) hS_4 ?_
 refine K.p 8 rfl (K.pa b) hS_4 ?_
 refine K.p 9 rfl (.pointer (some ⟨b, 7, none⟩)) hS_4 ?_
 refine K.o_ 10 rfl (K.iv (sFirst c)) (fun w hS => (hS.cell (hb.cell rfl) id)) hS_4 ?_
 refine K.b 11 rfl (K.iv at_) hS_4 ?_
 refine K.DW.l 12 rfl (by kernel_rfl) rfl (K.OW.call rfl [K.pa b, K.iv s, K.iv c.sl, K.iv (sFirst c), K.iv 1, K.iv at_] rfl rfl (by kernel_rfl) (lword _ c s c.sl (sFirst c) 1 at_ _ (by assumption) (by first | omega | (have := lay_bd (by assumption); unfold cfgOk at *; omega)) (by first | omega | (have := lay_bd (by assumption); unfold cfgOk at *; omega)) (by first | omega | (have := lay_bd (by assumption); unfold cfgOk at *; omega)) (by first | omega | (have := lay_bd (by assumption); unfold cfgOk at *; omega)) (hb.no c_5)) ?_)
 rintro _ w_9 ⟨rfl, c_8⟩
 have c_10 := c_5.no c_8
 have z_11 := c_10.size
 have zz_12 := c_8.size
 have hS_13 : (fun w => K.Chg K.No w0 w) w_9 := c_10
 refine ⟨.inl hS_13, ?_⟩
 refine K.b 13 rfl (K.iv (wordS c (s) (c.sl) ((sFirst c)) (1) (at_))) hS_13 ?_
 refine K.DW.done (by kernel_rfl) ?_
 refine K.t (K.r ?_)
 refine ⟨.inr rfl, rfl, (K.iv (wordS c (s) (c.sl) ((sFirst c)) (1) (at_))), K.res1 rfl rfl, ?_⟩
 exact ⟨congrArg (Value.int .i64) (by first | rfl | omega | (unfold slotS; (repeat' split) <;> omega)), c_10⟩
set_option maxHeartbeats 1000000 in
set_option maxRecDepth 100000 in
theorem lIntent (b : Nat) (c : Cfg) (t : Int) (w0 : World) (hc : cfgOk c) (hb : LayB w0 b c) :
  K.KC Tryz.prog 102 #[K.pa b, K.iv t] w0 (fun v w' => v = K.iv (threadS c t 1) ∧ K.Chg K.No w0 w') := by
 have hbd := lay_bd hc
 have hcc := hc
 unfold cfgOk at hcc
 refine K.KC.mk (n := 8) Tryz.func102 rfl rfl [K.pa b, K.iv t] rfl rfl ?_
 refine K.s ?_
 -- region 0 layout.go:132
 refine K.g (K.q [K.iv 0] (K.z (K.t (K.s ?_))))
 -- region 1 layout.go:132
 refine K.g (K.q [K.pa b, K.iv t] ?_)
 refine K.l (K.OW.call rfl [K.pa b, K.iv t, K.iv 1] rfl rfl (by kernel_rfl) (lthread _ c t 1 _ (by assumption) (by first | omega | (have := lay_bd (by assumption); unfold cfgOk at *; omega)) hb) ?_)
 rintro _ w_2 ⟨rfl, c_1⟩
 have c_3 := c_1
 have z_4 := c_3.size
 have zz_5 := c_1.size
 refine K.q [K.iv (threadS c (t) (1))] (K.z (K.t (K.r ?_)))
 refine ⟨.inr rfl, rfl, (K.iv (threadS c (t) (1))), K.res1 rfl rfl, ?_⟩
 exact ⟨congrArg (Value.int .i64) (by first | rfl | omega | (unfold threadS; (repeat' split) <;> omega)), c_3⟩
set_option maxHeartbeats 1000000 in
set_option maxRecDepth 100000 in
theorem lGen (b : Nat) (c : Cfg) (s : Int) (w0 : World) (hc : cfgOk c) (hb : LayB w0 b c) :
  K.KC Tryz.prog 37 #[K.pa b, K.iv s] w0 (fun v w' => v = K.iv (slotS c s 0) ∧ K.Chg K.No w0 w') := by
 have hbd := lay_bd hc
 have hcc := hc
 unfold cfgOk at hcc
 refine K.KC.mk (n := 8) Tryz.func37 rfl rfl [K.pa b, K.iv s] rfl rfl ?_
 refine K.s ?_
 -- region 0 layout.go:162
 refine K.g (K.q [K.iv 0] (K.z (K.t (K.s ?_))))
 -- region 1 layout.go:162
 refine K.g (K.q [K.pa b, K.iv s] ?_)
 refine K.l (K.OW.call rfl [K.pa b, K.iv s, K.iv 0] rfl rfl (by kernel_rfl) (lslot _ c s 0 _ (by assumption) (by first | omega | (have := lay_bd (by assumption); unfold cfgOk at *; omega)) hb) ?_)
 rintro _ w_2 ⟨rfl, c_1⟩
 have c_3 := c_1
 have z_4 := c_3.size
 have zz_5 := c_1.size
 refine K.q [K.iv (slotS c (s) (0))] (K.z (K.t (K.r ?_)))
 refine ⟨.inr rfl, rfl, (K.iv (slotS c (s) (0))), K.res1 rfl rfl, ?_⟩
 exact ⟨congrArg (Value.int .i64) (by first | rfl | omega | (unfold slotS; (repeat' split) <;> omega)), c_3⟩
set_option maxHeartbeats 1000000 in
set_option maxRecDepth 100000 in
theorem lLog (b : Nat) (c : Cfg) (t n : Int) (w0 : World) (hc : cfgOk c) (hb : LayB w0 b c) :
  K.KC Tryz.prog 221 #[K.pa b, K.iv t, K.iv n] w0 (fun v w' => v = K.iv (logS c t n) ∧ K.Chg K.No w0 w') := by
 have hbd := lay_bd hc
 have hcc := hc
 unfold cfgOk at hcc
 refine K.KC.mk (n := 37) Tryz.func221 rfl rfl [K.pa b, K.iv t, K.iv n] rfl rfl ?_
 refine K.s ?_
 -- region 0 layout.go:143
 refine K.g (K.q [K.iv 0] (K.z (K.t (K.s (K.s ?_)))))
 -- region 1 layout.go:144
 refine K.g (K.q [K.pa b, .bool false] (K.z (K.t (K.f (K.k (K.t (K.s (K.s ?_))))))))
 -- region 3 layout.go:147
 refine K.g (K.q [K.iv n, K.pa b, K.pa b, K.pa b, .pointer (some ⟨b, 2, none⟩)] ?_)
 refine K.d (K.iv c.lo) (hb.cell rfl) ?_
 refine K.l (K.OW.call rfl [K.iv n, K.iv c.lo] rfl rfl (by kernel_rfl) (has_ok n c.lo _) ?_)
 rintro v_4 w_2 ⟨hv_3, c_1⟩
 have c_5 := c_1
 have z_6 := c_5.size
 have zz_7 := c_1.size
 rcases Bool.eq_false_or_eq_true (decide (0 ≤ (n : Int) ∧ (n : Int) < (c.lo : Int))) with hb_8 | hb_8
 ·
  rw [hb_8] at hv_3; subst hv_3
  have hp_9 := of_decide_eq_true hb_8
  refine K.q [.bool false] (K.z (K.t (K.f (K.k (K.t (K.s ?_))))))
  -- region 5 layout.go:150
  refine K.KW.drawn (fun w => K.Chg K.No w0 w) (by kernel_rfl) ?_
  intro w_10 e_11 hs_12
  have c_14 := c_5.no e_11
  have z_15 := c_14.size
  have zz_16 := e_11.size
  have hS_13 : (fun w => K.Chg K.No w0 w) w_10 := c_14
  refine K.p 0 rfl (K.pa b) hS_13 ?_
  refine K.p 1 rfl (K.iv t) hS_13 ?_
  refine K.p 2 rfl (K.pa b) hS_13 ?_
  refine K.p 3 rfl (K.pa b) hS_13 ?_
  refine K.p 4 rfl (K.pa b) hS_13 ?_
  refine K.p 5 rfl (K.pa b) hS_13 ?_
  refine K.o_ 6 rfl (K.iv c.th) (fun w hS => (hS.cell (hb.cell rfl) id)) hS_13 ?_
  refine K.p 7 rfl (K.pa b) hS_13 ?_
  refine K.p 8 rfl (K.pa b) hS_13 ?_
  refine K.p 9 rfl (.pointer (some ⟨b, 5, none⟩)) hS_13 ?_
  refine K.o_ 10 rfl (K.iv (lFirst c)) (fun w hS => (hS.cell (hb.cell rfl) id)) hS_13 ?_
  refine K.p 11 rfl (K.pa b) hS_13 ?_
  refine K.p 12 rfl (K.pa b) hS_13 ?_
  refine K.p 13 rfl (.pointer (some ⟨b, 6, none⟩)) hS_13 ?_
  refine K.o_ 14 rfl (K.iv (lsz c)) (fun w hS => (hS.cell (hb.cell rfl) id)) hS_13 ?_
  refine K.b 15 rfl (K.iv n) hS_13 ?_
  refine K.DW.l 16 rfl (by kernel_rfl) rfl (K.OW.call rfl [K.pa b, K.iv t, K.iv c.th, K.iv (lFirst c), K.iv (lsz c), K.iv n] rfl rfl (by kernel_rfl) (lword _ c t c.th (lFirst c) (lsz c) n _ (by assumption) (by first | omega | (have := lay_bd (by assumption); unfold cfgOk at *; omega)) (by first | omega | (have := lay_bd (by assumption); unfold cfgOk at *; omega)) (by first | omega | (have := lay_bd (by assumption); unfold cfgOk at *; omega)) (by first | omega | (have := lay_bd (by assumption); unfold cfgOk at *; omega)) (hb.no c_14)) ?_)
  rintro _ w_18 ⟨rfl, c_17⟩
  have c_19 := c_14.no c_17
  have z_20 := c_19.size
  have zz_21 := c_17.size
  have hS_22 : (fun w => K.Chg K.No w0 w) w_18 := c_19
  refine ⟨.inl hS_22, ?_⟩
  refine K.b 17 rfl (K.iv (wordS c (t) (c.th) ((lFirst c)) ((lsz c)) (n))) hS_22 ?_
  refine K.DW.done (by kernel_rfl) ?_
  refine K.t (K.r ?_)
  refine ⟨.inr rfl, rfl, (K.iv (wordS c (t) (c.th) ((lFirst c)) ((lsz c)) (n))), K.res1 rfl rfl, ?_⟩
  exact ⟨congrArg (Value.int .i64) (by first | rfl | omega | (unfold logS; (repeat' split) <;> omega)), c_19⟩
 ·
  rw [hb_8] at hv_3; subst hv_3
  have hp_23 := of_decide_eq_false hb_8
  refine K.q [.bool true] (K.z (K.t (K.h (K.s ?_))))
  -- region 4 layout.go:148
  refine K.g (K.q [K.pa b] ?_)
  refine K.l (K.OW.call rfl [K.pa b] rfl rfl (by kernel_rfl) (lLines _ c  _ (by assumption) (hb.no c_5)) ?_)
  rintro _ w_25 ⟨rfl, c_24⟩
  have c_26 := c_5.no c_24
  have z_27 := c_26.size
  have zz_28 := c_24.size
  refine K.a (K.QR.n64 (((lns c) : Int) * (8 : Int)) (((lns c) : Int) * (8 : Int)) (by kernel_rfl) (by omega)) ?_
  refine K.q [K.iv (((lns c) : Int) * (8 : Int))] (K.z (K.t (K.r (K.u ?_))))
  refine ⟨.inr rfl, rfl, (K.iv (((lns c) : Int) * (8 : Int))), K.res1 rfl rfl, ?_⟩
  exact ⟨congrArg (Value.int .i64) (by first | rfl | omega | (unfold logS; (repeat' split) <;> omega)), c_26⟩
set_option maxHeartbeats 1000000 in
set_option maxRecDepth 100000 in
theorem lAnnounce (b : Nat) (c : Cfg) (t : Int) (w0 : World) (hc : cfgOk c) (hb : LayB w0 b c) :
  K.KC Tryz.prog 218 #[K.pa b, K.iv t] w0 (fun v w' => v = K.iv (annS c t) ∧ K.Chg K.No w0 w') := by
 have hbd := lay_bd hc
 have hcc := hc
 unfold cfgOk at hcc
 refine K.KC.mk (n := 18) Tryz.func218 rfl rfl [K.pa b, K.iv t] rfl rfl ?_
 refine K.s ?_
 -- region 0 layout.go:191
 refine K.g (K.q [K.iv 0] (K.z (K.t (K.s (K.s ?_)))))
 -- region 1 layout.go:192
 refine K.g (K.q [K.iv t, K.pa b] ?_)
 refine K.l (K.OW.call rfl [K.pa b] rfl rfl (by kernel_rfl) (lConfig _ c  _ (by assumption) hb) ?_)
 rintro _ w_2 ⟨rfl, c_1⟩
 have c_3 := c_1
 have z_4 := c_3.size
 have zz_5 := c_1.size
 refine K.q [K.iv c.th] ?_
 refine K.l (K.OW.call rfl [K.iv t, K.iv c.th] rfl rfl (by kernel_rfl) (has_ok t c.th _) ?_)
 rintro v_9 w_7 ⟨hv_8, c_6⟩
 have c_10 := c_3.no c_6
 have z_11 := c_10.size
 have zz_12 := c_6.size
 rcases Bool.eq_false_or_eq_true (decide (0 ≤ (t : Int) ∧ (t : Int) < (c.th : Int))) with hb_13 | hb_13
 ·
  rw [hb_13] at hv_8; subst hv_8
  have hp_14 := of_decide_eq_true hb_13
  refine K.q [.bool false] (K.z (K.t (K.f (K.k (K.t (K.s ?_))))))
  -- region 3 layout.go:195
  refine K.g (K.q [K.pa b, K.iv t] ?_)
  refine K.a (K.QR.n64 ((2 : Int) + (t : Int)) ((2 : Int) + (t : Int)) (by kernel_rfl) (by omega)) ?_
  refine K.l (K.OW.call rfl [K.pa b, K.iv ((2 : Int) + (t : Int))] rfl rfl (by kernel_rfl) (lpass _ c ((2 : Int) + (t : Int)) _ (by assumption) (by first | omega | (have := lay_bd (by assumption); unfold cfgOk at *; omega)) (hb.no c_10)) ?_)
  rintro _ w_16 ⟨rfl, c_15⟩
  have c_17 := c_10.no c_15
  have z_18 := c_17.size
  have zz_19 := c_15.size
  refine K.q [K.iv (-1 - ((2 : Int) + (t : Int)))] (K.z (K.t (K.r ?_)))
  refine ⟨.inr rfl, rfl, (K.iv (-1 - ((2 : Int) + (t : Int)))), K.res1 rfl rfl, ?_⟩
  exact ⟨congrArg (Value.int .i64) (by first | rfl | omega | (unfold annS; (repeat' split) <;> omega)), c_17⟩
 ·
  rw [hb_13] at hv_8; subst hv_8
  have hp_20 := of_decide_eq_false hb_13
  refine K.q [.bool true] (K.z (K.t (K.h (K.s ?_))))
  -- region 2 layout.go:193
  refine K.g (K.q [K.pa b] ?_)
  refine K.l (K.OW.call rfl [K.pa b] rfl rfl (by kernel_rfl) (lLines _ c  _ (by assumption) (hb.no c_10)) ?_)
  rintro _ w_22 ⟨rfl, c_21⟩
  have c_23 := c_10.no c_21
  have z_24 := c_23.size
  have zz_25 := c_21.size
  refine K.a (K.QR.n64 (((lns c) : Int) * (8 : Int)) (((lns c) : Int) * (8 : Int)) (by kernel_rfl) (by omega)) ?_
  refine K.q [K.iv (((lns c) : Int) * (8 : Int))] (K.z (K.t (K.r (K.u ?_))))
  refine ⟨.inr rfl, rfl, (K.iv (((lns c) : Int) * (8 : Int))), K.res1 rfl rfl, ?_⟩
  exact ⟨congrArg (Value.int .i64) (by first | rfl | omega | (unfold annS; (repeat' split) <;> omega)), c_23⟩
set_option maxHeartbeats 1000000 in
set_option maxRecDepth 100000 in
theorem lAfter (b : Nat) (c : Cfg) (s : Int) (w0 : World) (hc : cfgOk c) (hb : LayB w0 b c) :
  K.KC Tryz.prog 101 #[K.pa b, K.iv s] w0 (fun v w' => v = K.iv (aftS c s) ∧ K.Chg K.No w0 w') := by
 have hbd := lay_bd hc
 have hcc := hc
 unfold cfgOk at hcc
 refine K.KC.mk (n := 24) Tryz.func101 rfl rfl [K.pa b, K.iv s] rfl rfl ?_
 refine K.s ?_
 -- region 0 layout.go:199
 refine K.g (K.q [K.iv 0] (K.z (K.t (K.s (K.s ?_)))))
 -- region 1 layout.go:200
 refine K.g (K.q [K.iv s, K.pa b] ?_)
 refine K.l (K.OW.call rfl [K.pa b] rfl rfl (by kernel_rfl) (lConfig _ c  _ (by assumption) hb) ?_)
 rintro _ w_2 ⟨rfl, c_1⟩
 have c_3 := c_1
 have z_4 := c_3.size
 have zz_5 := c_1.size
 refine K.q [K.iv c.sl] ?_
 refine K.l (K.OW.call rfl [K.iv s, K.iv c.sl] rfl rfl (by kernel_rfl) (has_ok s c.sl _) ?_)
 rintro v_9 w_7 ⟨hv_8, c_6⟩
 have c_10 := c_3.no c_6
 have z_11 := c_10.size
 have zz_12 := c_6.size
 rcases Bool.eq_false_or_eq_true (decide (0 ≤ (s : Int) ∧ (s : Int) < (c.sl : Int))) with hb_13 | hb_13
 ·
  rw [hb_13] at hv_8; subst hv_8
  have hp_14 := of_decide_eq_true hb_13
  refine K.q [.bool false] (K.z (K.t (K.f (K.k (K.t (K.s ?_))))))
  -- region 3 layout.go:203
  refine K.g (K.q [K.pa b, K.pa b, K.pa b, K.pa b, K.pa b] ?_)
  refine K.d (K.iv c.th) (c_10.cell (hb.cell rfl) id) ?_
  refine K.a (K.QR.n64 ((2 : Int) + (c.th : Int)) ((2 : Int) + (c.th : Int)) (by kernel_rfl) (by omega)) ?_
  refine K.q [K.iv s] ?_
  refine K.a (K.QR.n64 (((2 : Int) + (c.th : Int) : Int) + (s : Int)) (((2 : Int) + (c.th : Int) : Int) + (s : Int)) (by kernel_rfl) (by omega)) ?_
  refine K.l (K.OW.call rfl [K.pa b, K.iv (((2 : Int) + (c.th : Int) : Int) + (s : Int))] rfl rfl (by kernel_rfl) (lpass _ c (((2 : Int) + (c.th : Int) : Int) + (s : Int)) _ (by assumption) (by first | omega | (have := lay_bd (by assumption); unfold cfgOk at *; omega)) (hb.no c_10)) ?_)
  rintro _ w_16 ⟨rfl, c_15⟩
  have c_17 := c_10.no c_15
  have z_18 := c_17.size
  have zz_19 := c_15.size
  refine K.q [K.iv (-1 - (((2 : Int) + (c.th : Int) : Int) + (s : Int)))] (K.z (K.t (K.r ?_)))
  refine ⟨.inr rfl, rfl, (K.iv (-1 - (((2 : Int) + (c.th : Int) : Int) + (s : Int)))), K.res1 rfl rfl, ?_⟩
  exact ⟨congrArg (Value.int .i64) (by first | rfl | omega | (unfold aftS; (repeat' split) <;> omega)), c_17⟩
 ·
  rw [hb_13] at hv_8; subst hv_8
  have hp_20 := of_decide_eq_false hb_13
  refine K.q [.bool true] (K.z (K.t (K.h (K.s ?_))))
  -- region 2 layout.go:201
  refine K.g (K.q [K.pa b] ?_)
  refine K.l (K.OW.call rfl [K.pa b] rfl rfl (by kernel_rfl) (lLines _ c  _ (by assumption) (hb.no c_10)) ?_)
  rintro _ w_22 ⟨rfl, c_21⟩
  have c_23 := c_10.no c_21
  have z_24 := c_23.size
  have zz_25 := c_21.size
  refine K.a (K.QR.n64 (((lns c) : Int) * (8 : Int)) (((lns c) : Int) * (8 : Int)) (by kernel_rfl) (by omega)) ?_
  refine K.q [K.iv (((lns c) : Int) * (8 : Int))] (K.z (K.t (K.r (K.u ?_))))
  refine ⟨.inr rfl, rfl, (K.iv (((lns c) : Int) * (8 : Int))), K.res1 rfl rfl, ?_⟩
  exact ⟨congrArg (Value.int .i64) (by first | rfl | omega | (unfold aftS; (repeat' split) <;> omega)), c_23⟩
end Go.Proofs.YtbfafebfkdbglaaGreat
