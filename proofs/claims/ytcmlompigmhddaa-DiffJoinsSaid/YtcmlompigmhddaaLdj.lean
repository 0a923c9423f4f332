/- DiffJoins: joining two patches is the reference; it does what both do. -/
import Derived.Test.YtcmlompigmhddaaFjoin
import Derived.Test.YtcmlompigmhddaaLda
namespace Go.Proofs.Ytcmlompigmhddaa
open Go.RowKit
set_option linter.unusedVariables false
attribute [local irreducible] K.KW K.RW K.DW K.OW K.QR K.KC

def eqUpC (xs ys : List Chg3) (k : Nat) : Prop := ∀ j, j < k → xs.getD j d3 = ys.getD j d3
theorem eqUpC_zero (xs ys : List Chg3) : eqUpC xs ys 0 := fun _ h => by omega
theorem eqUpC_succ {xs ys : List Chg3} {k : Nat} (h : eqUpC xs ys k) (he : (xs.getD k d3).at_ = (ys.getD k d3).at_ ∧ (xs.getD k d3).old = (ys.getD k d3).old ∧ (xs.getD k d3).new = (ys.getD k d3).new) : eqUpC xs ys (k + 1) := fun j hj => by
  rcases Nat.lt_or_ge j k with h' | h'
  · exact h j h'
  · rw [show j = k by omega]
    obtain ⟨h1, h2, h3⟩ := he
    cases hx : xs.getD k d3; cases hy : ys.getD k d3
    simp_all
theorem eqC_of {xs ys : List Chg3} (hl : xs.length = ys.length) {k : Nat} (hk : k = xs.length) (h : eqUpC xs ys k) : xs = ys := by
  subst hk
  apply List.ext_getElem hl
  intro j h1 h2
  have := h j h1
  simpa [h1, h2] using this
/-- are two patches one? -/
def sameC (xs ys : List Chg3) : Bool := decide (xs = ys)
theorem sameC_t {xs ys : List Chg3} {k : Nat} (h : xs.length = ys.length) (he : eqUpC xs ys k) (hk : k = xs.length) : Value.bool true = .bool (sameC xs ys) :=
  congrArg Value.bool (decide_eq_true (eqC_of h hk he)).symm
theorem sameC_len {xs ys : List Chg3} (h : ¬ (xs.length : Int) = ys.length) : Value.bool false = .bool (sameC xs ys) :=
  congrArg Value.bool (decide_eq_false (fun e => h (by rw [e]))).symm
theorem sameC_ne {xs ys : List Chg3} {k : Nat} (h : ¬ ((xs.getD k d3).at_ = (ys.getD k d3).at_ ∧ (xs.getD k d3).old = (ys.getD k d3).old ∧ (xs.getD k d3).new = (ys.getD k d3).new)) : Value.bool false = .bool (sameC xs ys) :=
  congrArg Value.bool (decide_eq_false (fun e => h (by rw [e]; exact ⟨rfl, rfl, rfl⟩))).symm

set_option maxHeartbeats 1000000 in
set_option maxRecDepth 100000 in
theorem sameC_ok (a a' : Option Addr) (cap cap' : Nat) (xs ys : List Chg3) (w0 : World) (hm : xs.length ≤ 9223372036854775807) (hx : RCh w0 a xs) (hy : RCh w0 a' ys) :
    K.KC Try.prog 43 #[.slice a xs.length cap, .slice a' ys.length cap'] w0 (fun v w' => v = .bool (sameC xs ys) ∧ K.Chg K.No w0 w') := by
  refine K.KC.mk (n := 26) Try.func43 rfl rfl [.slice a xs.length cap, .slice a' ys.length cap'] rfl rfl ?_
  refine K.KW.seq ?_
  -- region 0 law.go:28
  refine K.KW.region ?_
  refine K.RW.q rfl rfl (K.QR.k (v := .bool false) (by kernel_rfl)) ?_
  refine K.RW.nil ?_
  refine K.thn_normal ?_
  refine K.KW.seq ?_
  refine K.KW.seq ?_
  -- region 1 law.go:29
  refine K.KW.region ?_
  refine K.RW.q rfl rfl (K.QR.k (v := .slice a xs.length cap) (by kernel_rfl)) ?_
  refine K.RW.q rfl rfl (K.QR.len (P := Try.prog) rfl rfl Try.underlying42) ?_
  refine K.RW.q rfl rfl (K.QR.k (v := .slice a' ys.length cap') (by kernel_rfl)) ?_
  refine K.RW.q rfl rfl (K.QR.len (P := Try.prog) rfl rfl Try.underlying53) ?_
  by_cases h_1 : (((xs.length : Nat) : Int) : Int) = (((ys.length : Nat) : Int) : Int)
  ·  -- yes
    refine K.RW.q rfl rfl (K.QR.nice (v := .bool ((((xs.length : Nat) : Int) : Int) != (((ys.length : Nat) : Int) : Int))) (by kernel_rfl) (congrArg Value.bool (bne_eq_false_iff_eq.2 h_1))) ?_
    refine K.RW.nil ?_
    refine K.thn_normal ?_
    refine K.KW.ifF rfl ?_
    refine K.KW.skip ?_
    refine K.thn_normal ?_
    refine K.KW.seq ?_
    refine K.KW.seq ?_
    -- region 3 law.go:32
    refine K.KW.region ?_
    refine K.RW.q rfl rfl (K.QR.k (v := .int .i64 0) (by kernel_rfl)) ?_
    refine K.RW.nil ?_
    refine K.thn_normal ?_
    refine K.KW.block ?_
    refine K.KW.loop (fun m_ F_ w_2 => ∃ (k : Nat), m_ = xs.length - k ∧ K.Sl F_ [(0, .slice a xs.length cap), (1, .slice a' ys.length cap'), (5, .int .i64 ((k : Nat) : Int))] ∧ k ≤ xs.length ∧ xs.length = ys.length ∧ eqUpC xs ys k ∧ K.Chg K.No w0 w_2) ((fun (k : Nat) => xs.length - k) 0) ?_ ?_
    · -- the loop begins
      exact ⟨0, rfl, ⟨by rfl, by rfl, by rfl, trivial⟩, (by omega), (by omega), (eqUpC_zero _ _), (K.Chg.refl _)⟩
    · -- a round
      intro m_3 F_4 w_2 hI
      obtain ⟨k, rfl, sl_5, p_7, p_8, p_9, c_6⟩ := hI
      rw [← K.Sl.puts sl_5]; clear sl_5
      have z_10 := c_6.size
      refine K.KW.seq ?_
      refine K.KW.seq ?_
      -- region 4 law.go:32
      refine K.KW.region ?_
      refine K.RW.q rfl rfl (K.QR.k (v := .int .i64 ((k : Nat) : Int)) (by kernel_rfl)) ?_
      refine K.RW.q rfl rfl (K.QR.k (v := .slice a xs.length cap) (by kernel_rfl)) ?_
      refine K.RW.q rfl rfl (K.QR.len (P := Try.prog) rfl rfl Try.underlying42) ?_
      by_cases h_11 : (((k : Nat) : Int) : Int) < (((xs.length : Nat) : Int) : Int)
      ·  -- yes
        refine K.RW.q rfl rfl (K.QR.nice (v := .bool (decide ((((k : Nat) : Int) : Int) < (((xs.length : Nat) : Int) : Int)))) (by kernel_rfl) (congrArg Value.bool (decide_eq_true h_11))) ?_
        refine K.RW.nil ?_
        refine K.thn_normal ?_
        refine K.KW.ifT rfl ?_
        refine K.KW.skip ?_
        refine K.thn_normal ?_
        refine K.KW.seq ?_
        refine K.KW.block ?_
        refine K.KW.seq ?_
        -- region 6 law.go:33
        obtain ⟨b_12, of_13, rfl, _⟩ := hx.at_ (by omega)
        obtain ⟨b_14, of_15, rfl, _⟩ := hy.at_ (by omega)
        refine K.KW.drawn (fun w => K.Chg K.No w0 w) (by kernel_rfl) ?_
        intro w_16 e_17 hs_18
        have c_20 := c_6.no e_17
        have z_21 := c_20.size
        have hS_19 : (fun w => K.Chg K.No w0 w) w_16 := c_20
        refine K.DW.q 0 (by kernel_rfl) rfl rfl (by kernel_rfl) rfl (fun w hS => K.QR.k (v := .slice (some ⟨b_12, of_13, none⟩) xs.length cap) (by kernel_rfl)) hS_19 ?_
        refine K.DW.q 1 (by kernel_rfl) rfl rfl (by kernel_rfl) rfl (fun w hS => K.QR.k (v := .int .i64 ((k : Nat) : Int)) (by kernel_rfl)) hS_19 ?_
        refine K.DW.q 2 (by kernel_rfl) rfl rfl (by kernel_rfl) rfl (fun w hS => K.QR.ix (of_13 + k * 3) 3 rfl rfl rfl Try.underlying42 (by kernel_rfl) (by omega) (by simp)) hS_19 ?_
        refine K.DW.q 3 (by kernel_rfl) rfl rfl (by kernel_rfl) rfl (fun w hS => K.QR.ldN [.int .i64 ((xs.getD k d3).at_), .int .u64 ((xs.getD k d3).old), .int .u64 ((xs.getD k d3).new)] rfl rfl (by kernel_rfl) (by kernel_rfl) (K.cells (K.cl (hS.cell (hx.ld k (by omega) 0 _ rfl) id) (K.cl (hS.cell (hx.ld k (by omega) 1 _ rfl) id) (K.cl (hS.cell (hx.ld k (by omega) 2 _ rfl) id) K.cl0))))) hS_19 ?_
        refine K.DW.q 4 (by kernel_rfl) rfl rfl (by kernel_rfl) rfl (fun w hS => K.QR.k (v := .slice (some ⟨b_14, of_15, none⟩) ys.length cap') (by kernel_rfl)) hS_19 ?_
        refine K.DW.q 5 (by kernel_rfl) rfl rfl (by kernel_rfl) rfl (fun w hS => K.QR.k (v := .int .i64 ((k : Nat) : Int)) (by kernel_rfl)) hS_19 ?_
        refine K.DW.q 6 (by kernel_rfl) rfl rfl (by kernel_rfl) rfl (fun w hS => K.QR.ix (of_15 + k * 3) 3 rfl rfl rfl Try.underlying53 (by kernel_rfl) (by omega) (by simp)) hS_19 ?_
        refine K.DW.q 7 (by kernel_rfl) rfl rfl (by kernel_rfl) rfl (fun w hS => K.QR.ldN [.int .i64 ((ys.getD k d3).at_), .int .u64 ((ys.getD k d3).old), .int .u64 ((ys.getD k d3).new)] rfl rfl (by kernel_rfl) (by kernel_rfl) (K.cells (K.cl (hS.cell (hy.ld k (by omega) 0 _ rfl) id) (K.cl (hS.cell (hy.ld k (by omega) 1 _ rfl) id) (K.cl (hS.cell (hy.ld k (by omega) 2 _ rfl) id) K.cl0))))) hS_19 ?_
        by_cases h_22 : ((xs.getD k d3).at_ : Int) = (ys.getD k d3).at_ ∧ ((xs.getD k d3).old : Int) = (ys.getD k d3).old ∧ ((xs.getD k d3).new : Int) = (ys.getD k d3).new
        ·  -- yes
          refine K.DW.q 8 (by kernel_rfl) rfl rfl (by kernel_rfl) rfl (fun w hS => K.QR.neS (by kernel_rfl) rfl rfl rfl (eqR_t h_22)) hS_19 ?_
          refine K.DW.done (by kernel_rfl) ?_
          refine K.thn_normal ?_
          refine K.KW.ifF rfl ?_
          refine K.KW.skip ?_
          refine K.blk_normal ?_
          refine K.thn_normal ?_
          -- region 5 law.go:32
          refine K.KW.region ?_
          refine K.RW.q rfl rfl (K.QR.k (v := .int .i64 ((k : Nat) : Int)) (by kernel_rfl)) ?_
          refine K.RW.q rfl rfl (K.QR.n64 ((((k : Nat) : Int) : Int) + (1 : Int)) ((k + 1 : Nat) : Int) (by kernel_rfl) (by omega)) ?_
          refine K.RW.q rfl rfl (K.QR.k (v := .int .i64 ((k + 1 : Nat) : Int)) (by kernel_rfl)) ?_
          refine K.RW.nil ?_
          refine K.thn_normal ?_
          refine ⟨_, ?_, k + 1, rfl, ⟨by rfl, by rfl, by rfl, trivial⟩, (by omega), (by omega), (eqUpC_succ (by assumption) (by assumption)), c_20⟩
          omega
        ·  -- no
          refine K.DW.q 8 (by kernel_rfl) rfl rfl (by kernel_rfl) rfl (fun w hS => K.QR.neS (by kernel_rfl) rfl rfl rfl (eqR_f h_22)) hS_19 ?_
          refine K.DW.done (by kernel_rfl) ?_
          refine K.thn_normal ?_
          refine K.KW.ifT rfl ?_
          refine K.KW.seq ?_
          -- region 7 law.go:34
          refine K.KW.region ?_
          refine K.RW.q rfl rfl (K.QR.k (v := .bool false) (by kernel_rfl)) ?_
          refine K.RW.nil ?_
          refine K.thn_normal ?_
          refine K.KW.ret ?_
          refine K.blk_ret ?_
          refine K.thn_ret ?_
          refine K.thn_ret ?_
          refine K.blk_ret ?_
          refine K.thn_ret ?_
          refine ⟨.inr rfl, (.bool false), K.res1 rfl rfl, ?_⟩
          exact ⟨by first | exact sameC_t (by assumption) (by assumption) (by omega) | exact sameC_len (by assumption) | exact sameC_ne (by assumption), c_20⟩
      ·  -- no
        refine K.RW.q rfl rfl (K.QR.nice (v := .bool (decide ((((k : Nat) : Int) : Int) < (((xs.length : Nat) : Int) : Int)))) (by kernel_rfl) (congrArg Value.bool (decide_eq_false h_11))) ?_
        refine K.RW.nil ?_
        refine K.thn_normal ?_
        refine K.KW.ifF rfl ?_
        refine K.KW.exit ?_
        refine K.thn_exit ?_
        refine K.thn_exit ?_
        refine K.blk_hit ?_
        refine K.thn_normal ?_
        refine K.KW.seq ?_
        -- region 8 law.go:37
        refine K.KW.region ?_
        refine K.RW.q rfl rfl (K.QR.k (v := .bool true) (by kernel_rfl)) ?_
        refine K.RW.nil ?_
        refine K.thn_normal ?_
        refine K.KW.ret ?_
        refine ⟨.inr rfl, (.bool true), K.res1 rfl rfl, ?_⟩
        exact ⟨by first | exact sameC_t (by assumption) (by assumption) (by omega) | exact sameC_len (by assumption) | exact sameC_ne (by assumption), c_6⟩
  ·  -- no
    refine K.RW.q rfl rfl (K.QR.nice (v := .bool ((((xs.length : Nat) : Int) : Int) != (((ys.length : Nat) : Int) : Int))) (by kernel_rfl) (congrArg Value.bool (bne_iff_ne.2 h_1))) ?_
    refine K.RW.nil ?_
    refine K.thn_normal ?_
    refine K.KW.ifT rfl ?_
    refine K.KW.seq ?_
    -- region 2 law.go:30
    refine K.KW.region ?_
    refine K.RW.q rfl rfl (K.QR.k (v := .bool false) (by kernel_rfl)) ?_
    refine K.RW.nil ?_
    refine K.thn_normal ?_
    refine K.KW.ret ?_
    refine K.thn_ret ?_
    refine ⟨.inr rfl, (.bool false), K.res1 rfl rfl, ?_⟩
    exact ⟨by first | exact sameC_t (by assumption) (by assumption) (by omega) | exact sameC_len (by assumption) | exact sameC_ne (by assumption), (K.Chg.refl _)⟩

set_option maxHeartbeats 1000000 in
set_option maxRecDepth 100000 in
theorem lawdj_ok (a b c : Option Addr) (cap cap' capp : Nat) (xs : List Int) (l m : List Chg3) (w0 : World) (hm0 : xs.length ≤ 9223372036854775807) (hm1 : l.length ≤ 9223372036854775807) (hm2 : m.length ≤ 9223372036854775807) (hc1 : l.length ≤ cap') (hc2 : m.length ≤ capp) (hx : RU64 w0 a xs) (hl : RCh w0 b l) (hk : RCh w0 c m) :
    K.KC Try.prog 10 #[.slice a xs.length cap, .slice b l.length cap', .slice c m.length capp] w0 (fun v w' => v = .bool true ∧ K.Chg K.No w0 w') := by
  refine K.KC.mk (n := 93) Try.func10 rfl rfl [.slice a xs.length cap, .slice b l.length cap', .slice c m.length capp] rfl rfl ?_
  refine K.KW.seq ?_
  -- region 0 law.go:96
  refine K.KW.region ?_
  refine K.RW.q rfl rfl (K.QR.k (v := .bool false) (by kernel_rfl)) ?_
  refine K.RW.nil ?_
  refine K.thn_normal ?_
  refine K.KW.seq ?_
  refine K.KW.seq ?_
  -- region 1 law.go:97
  refine K.KW.region ?_
  refine K.RW.q rfl rfl (K.QR.k (v := .slice a xs.length cap) (by kernel_rfl)) ?_
  refine K.RW.q rfl rfl (K.QR.len (P := Try.prog) rfl rfl Try.underlying32) ?_
  by_cases h_1 : (((xs.length : Nat) : Int) : Int) > (300 : Int)
  ·  -- yes
    refine K.RW.q rfl rfl (K.QR.nice (v := .bool (decide ((((xs.length : Nat) : Int) : Int) > (300 : Int)))) (by kernel_rfl) (congrArg Value.bool (decide_eq_true h_1))) ?_
    refine K.RW.q rfl rfl (K.QR.k (v := .bool true) (by kernel_rfl)) ?_
    refine K.RW.skip rfl (by kernel_rfl) ?_
    refine K.RW.skip rfl (by kernel_rfl) ?_
    refine K.RW.skip rfl (by kernel_rfl) ?_
    refine K.RW.q rfl rfl (K.QR.k (v := .bool true) (by kernel_rfl)) ?_
    refine K.RW.q rfl rfl (K.QR.k (v := .bool true) (by kernel_rfl)) ?_
    refine K.RW.skip rfl (by kernel_rfl) ?_
    refine K.RW.skip rfl (by kernel_rfl) ?_
    refine K.RW.skip rfl (by kernel_rfl) ?_
    refine K.RW.q rfl rfl (K.QR.k (v := .bool true) (by kernel_rfl)) ?_
    refine K.RW.nil ?_
    refine K.thn_normal ?_
    refine K.KW.ifT rfl ?_
    refine K.KW.seq ?_
    -- region 2 law.go:98
    refine K.KW.region ?_
    refine K.RW.l rfl (K.OW.call rfl [] rfl rfl (by kernel_rfl) (awake34_ok _) ?_) 
    rintro _ w_3 ⟨rfl, c_2⟩
    have c_4 := c_2
    have z_5 := c_4.size
    refine K.RW.q rfl rfl (K.QR.k (v := .bool true) (by kernel_rfl)) ?_
    refine K.RW.nil ?_
    refine K.thn_normal ?_
    refine K.KW.ret ?_
    refine K.thn_ret ?_
    refine ⟨.inr rfl, (.bool true), K.res1 rfl rfl, ?_⟩
    exact ⟨rfl, c_4⟩
  ·  -- no
    refine K.RW.q rfl rfl (K.QR.nice (v := .bool (decide ((((xs.length : Nat) : Int) : Int) > (300 : Int)))) (by kernel_rfl) (congrArg Value.bool (decide_eq_false h_1))) ?_
    refine K.RW.q rfl rfl (K.QR.k (v := .bool false) (by kernel_rfl)) ?_
    refine K.RW.q rfl (by kernel_rfl) (K.QR.k (v := .slice b l.length cap') (by kernel_rfl)) ?_
    refine K.RW.q rfl (by kernel_rfl) (K.QR.len (P := Try.prog) rfl rfl Try.underlying42) ?_
    by_cases h_6 : (((l.length : Nat) : Int) : Int) > (100 : Int)
    ·  -- yes
      refine K.RW.q rfl (by kernel_rfl) (K.QR.nice (v := .bool (decide ((((l.length : Nat) : Int) : Int) > (100 : Int)))) (by kernel_rfl) (congrArg Value.bool (decide_eq_true h_6))) ?_
      refine K.RW.q rfl rfl (K.QR.k (v := .bool true) (by kernel_rfl)) ?_
      refine K.RW.q rfl rfl (K.QR.k (v := .bool true) (by kernel_rfl)) ?_
      refine K.RW.skip rfl (by kernel_rfl) ?_
      refine K.RW.skip rfl (by kernel_rfl) ?_
      refine K.RW.skip rfl (by kernel_rfl) ?_
      refine K.RW.q rfl rfl (K.QR.k (v := .bool true) (by kernel_rfl)) ?_
      refine K.RW.nil ?_
      refine K.thn_normal ?_
      refine K.KW.ifT rfl ?_
      refine K.KW.seq ?_
      -- region 2 law.go:98
      refine K.KW.region ?_
      refine K.RW.l rfl (K.OW.call rfl [] rfl rfl (by kernel_rfl) (awake34_ok _) ?_) 
      rintro _ w_8 ⟨rfl, c_7⟩
      have c_9 := c_7
      have z_10 := c_9.size
      refine K.RW.q rfl rfl (K.QR.k (v := .bool true) (by kernel_rfl)) ?_
      refine K.RW.nil ?_
      refine K.thn_normal ?_
      refine K.KW.ret ?_
      refine K.thn_ret ?_
      refine ⟨.inr rfl, (.bool true), K.res1 rfl rfl, ?_⟩
      exact ⟨rfl, c_9⟩
    ·  -- no
      refine K.RW.q rfl (by kernel_rfl) (K.QR.nice (v := .bool (decide ((((l.length : Nat) : Int) : Int) > (100 : Int)))) (by kernel_rfl) (congrArg Value.bool (decide_eq_false h_6))) ?_
      refine K.RW.q rfl rfl (K.QR.k (v := .bool false) (by kernel_rfl)) ?_
      refine K.RW.q rfl rfl (K.QR.k (v := .bool false) (by kernel_rfl)) ?_
      refine K.RW.q rfl (by kernel_rfl) (K.QR.k (v := .slice c m.length capp) (by kernel_rfl)) ?_
      refine K.RW.q rfl (by kernel_rfl) (K.QR.len (P := Try.prog) rfl rfl Try.underlying42) ?_
      by_cases h_11 : (((m.length : Nat) : Int) : Int) > (100 : Int)
      ·  -- yes
        refine K.RW.q rfl (by kernel_rfl) (K.QR.nice (v := .bool (decide ((((m.length : Nat) : Int) : Int) > (100 : Int)))) (by kernel_rfl) (congrArg Value.bool (decide_eq_true h_11))) ?_
        refine K.RW.q rfl rfl (K.QR.k (v := .bool true) (by kernel_rfl)) ?_
        refine K.RW.nil ?_
        refine K.thn_normal ?_
        refine K.KW.ifT rfl ?_
        refine K.KW.seq ?_
        -- region 2 law.go:98
        refine K.KW.region ?_
        refine K.RW.l rfl (K.OW.call rfl [] rfl rfl (by kernel_rfl) (awake34_ok _) ?_) 
        rintro _ w_13 ⟨rfl, c_12⟩
        have c_14 := c_12
        have z_15 := c_14.size
        refine K.RW.q rfl rfl (K.QR.k (v := .bool true) (by kernel_rfl)) ?_
        refine K.RW.nil ?_
        refine K.thn_normal ?_
        refine K.KW.ret ?_
        refine K.thn_ret ?_
        refine ⟨.inr rfl, (.bool true), K.res1 rfl rfl, ?_⟩
        exact ⟨rfl, c_14⟩
      ·  -- no
        refine K.RW.q rfl (by kernel_rfl) (K.QR.nice (v := .bool (decide ((((m.length : Nat) : Int) : Int) > (100 : Int)))) (by kernel_rfl) (congrArg Value.bool (decide_eq_false h_11))) ?_
        refine K.RW.q rfl rfl (K.QR.k (v := .bool false) (by kernel_rfl)) ?_
        refine K.RW.nil ?_
        refine K.thn_normal ?_
        refine K.KW.ifF rfl ?_
        refine K.KW.skip ?_
        refine K.thn_normal ?_
        refine K.KW.seq ?_
        -- region 3 law.go:100
        refine K.KW.region ?_
        refine K.RW.q rfl rfl (K.QR.k (v := .slice b l.length cap') (by kernel_rfl)) ?_
        refine K.RW.q rfl rfl (K.QR.k (v := .slice c m.length capp) (by kernel_rfl)) ?_
        refine K.RW.l rfl (K.OW.call rfl [.slice b l.length cap', .slice c m.length capp] rfl rfl (by kernel_rfl) (join_ok _ _ _ _ l m _ (by first | omega | (simp; omega) | (simp; done)) (by first | omega | (simp; omega) | (simp; done)) (by first | omega | (simp; omega) | (simp; done)) hl hk) ?_) 
        rintro _ w_22 ⟨r_16, m_17, cc_18, rfl, c_19, o_20, rfl⟩
        have c_23 := c_19
        have z_24 := c_23.size
        have o_25 := K.Own.mono (base' := w0.heap.size) o_20 (by omega)
        refine K.RW.q rfl rfl (K.QR.k (v := .tuple #[.slice r_16 (((joinR l m).2).length) cc_18, .int .i64 ((joinR l m).1)]) (by kernel_rfl)) ?_
        refine K.RW.q rfl rfl (K.QR.k (v := .slice r_16 (((joinR l m).2).length) cc_18) (by kernel_rfl)) ?_
        refine K.RW.q rfl rfl (K.QR.k (v := .int .i64 ((joinR l m).1)) (by kernel_rfl)) ?_
        refine K.RW.q rfl rfl (K.QR.k (v := .slice r_16 (((joinR l m).2).length) cc_18) (by kernel_rfl)) ?_
        refine K.RW.q rfl rfl (K.QR.k (v := .int .i64 ((joinR l m).1)) (by kernel_rfl)) ?_
        refine K.RW.nil ?_
        refine K.thn_normal ?_
        refine K.KW.seq ?_
        -- region 4 law.go:101
        refine K.KW.region ?_
        refine K.RW.q rfl rfl (K.QR.k (v := .slice b l.length cap') (by kernel_rfl)) ?_
        refine K.RW.l rfl (K.OW.call rfl [.slice b l.length cap'] rfl rfl (by kernel_rfl) (as_ok _ _ l _ (by first | omega | (simp; omega) | (simp; done)) (hl.no c_23)) ?_) 
        rintro _ w_32 ⟨r_26, m_27, cc_28, rfl, c_29, o_30, rfl⟩
        have c_33 := c_23.no c_29
        have z_34 := c_33.size
        have f_35 := o_25.no c_29
        have o_36 := K.Own.mono (base' := w0.heap.size) o_30 (by omega)
        refine K.RW.q rfl rfl (K.QR.k (v := .slice c m.length capp) (by kernel_rfl)) ?_
        refine K.RW.l rfl (K.OW.call rfl [.slice c m.length capp] rfl rfl (by kernel_rfl) (as_ok _ _ m _ (by first | omega | (simp; omega) | (simp; done)) (hk.no c_33)) ?_) 
        rintro _ w_43 ⟨r_37, m_38, cc_39, rfl, c_40, o_41, rfl⟩
        have c_44 := c_33.no c_40
        have z_45 := c_44.size
        have f_46 := f_35.no c_40
        have f_47 := o_36.no c_40
        have o_48 := K.Own.mono (base' := w0.heap.size) o_41 (by omega)
        refine K.RW.l rfl (K.OW.call rfl [.slice r_26 l.length cc_28, .slice r_37 m.length cc_39] rfl rfl (by kernel_rfl) (rjoin_ok _ _ _ _ l m _ (by first | omega | (simp; omega) | (simp; done)) (K.Own.rowE d3 f_47 rfl (fun _ => rfl)) (K.Own.rowE d3 o_48 rfl (fun _ => rfl))) ?_) 
        rintro _ w_55 ⟨r_49, m_50, cc_51, rfl, c_52, o_53, rfl⟩
        have c_56 := c_44.no c_52
        have z_57 := c_56.size
        have f_58 := f_46.no c_52
        have f_59 := f_47.no c_52
        have f_60 := o_48.no c_52
        have o_61 := K.Own.mono (base' := w0.heap.size) o_53 (by omega)
        refine K.RW.q rfl rfl (K.QR.k (v := .tuple #[.slice r_49 (((joinR l m).2).length) cc_51, .int .i64 ((joinR l m).1)]) (by kernel_rfl)) ?_
        refine K.RW.q rfl rfl (K.QR.k (v := .slice r_49 (((joinR l m).2).length) cc_51) (by kernel_rfl)) ?_
        refine K.RW.q rfl rfl (K.QR.k (v := .int .i64 ((joinR l m).1)) (by kernel_rfl)) ?_
        refine K.RW.q rfl rfl (K.QR.k (v := .slice r_49 (((joinR l m).2).length) cc_51) (by kernel_rfl)) ?_
        refine K.RW.q rfl rfl (K.QR.k (v := .int .i64 ((joinR l m).1)) (by kernel_rfl)) ?_
        refine K.RW.nil ?_
        refine K.thn_normal ?_
        refine K.KW.seq ?_
        refine K.KW.seq ?_
        -- region 5 law.go:102
        have hjl := joinR_len l m
        have hal := apply_le xs l
        have hal2 := apply_le (apply xs l).2 m
        have haj := apply_le xs (joinR l m).2
        refine K.KW.region ?_
        refine K.RW.q rfl rfl (K.QR.k (v := .int .i64 ((joinR l m).1)) (by kernel_rfl)) ?_
        refine K.RW.q rfl rfl (K.QR.k (v := .int .i64 ((joinR l m).1)) (by kernel_rfl)) ?_
        refine K.RW.q rfl rfl (K.QR.nice (v := .bool (((joinR l m).1 : Int) != ((joinR l m).1 : Int))) (by kernel_rfl) (congrArg Value.bool (bne_eq_false_iff_eq.2 rfl))) ?_
        refine K.RW.q rfl rfl (K.QR.k (v := .bool false) (by kernel_rfl)) ?_
        refine K.RW.q rfl (by kernel_rfl) (K.QR.k (v := .slice r_16 (((joinR l m).2).length) cc_18) (by kernel_rfl)) ?_
        refine K.RW.q rfl (by kernel_rfl) (K.QR.k (v := .slice r_49 (((joinR l m).2).length) cc_51) (by kernel_rfl)) ?_
        refine K.RW.l (by kernel_rfl) (K.OW.call rfl [.slice r_16 (((joinR l m).2).length) cc_18, .slice r_49 (((joinR l m).2).length) cc_51] rfl rfl (by kernel_rfl) (sameC_ok _ _ _ _ ((joinR l m).2) ((joinR l m).2) _ (by first | omega | (simp; omega) | (simp; done)) (K.Own.rowE d3 f_58 rfl (fun _ => rfl)) (K.Own.rowE d3 o_61 rfl (fun _ => rfl))) ?_) 
        rintro v_65 w_63 ⟨hv_64, c_62⟩
        have c_66 := c_56.no c_62
        have z_67 := c_66.size
        have f_68 := f_58.no c_62
        have f_69 := f_59.no c_62
        have f_70 := f_60.no c_62
        have f_71 := o_61.no c_62
        have hb_72 : sameC ((joinR l m).2) ((joinR l m).2) = true := (decide_eq_true rfl)
        rw [hb_72] at hv_64; subst hv_64
        refine K.RW.q rfl (by kernel_rfl) (K.QR.k (v := .bool false) (by kernel_rfl)) ?_
        refine K.RW.q rfl rfl (K.QR.k (v := .bool false) (by kernel_rfl)) ?_
        refine K.RW.nil ?_
        refine K.thn_normal ?_
        refine K.KW.ifF rfl ?_
        refine K.KW.skip ?_
        refine K.thn_normal ?_
        refine K.KW.seq ?_
        -- region 7 law.go:105
        refine K.KW.region ?_
        refine K.RW.q rfl rfl (K.QR.k (v := .slice a xs.length cap) (by kernel_rfl)) ?_
        refine K.RW.q rfl rfl (K.QR.k (v := .slice b l.length cap') (by kernel_rfl)) ?_
        refine K.RW.l rfl (K.OW.call rfl [.slice a xs.length cap, .slice b l.length cap'] rfl rfl (by kernel_rfl) (apply_ok _ _ _ _ xs l _ (by first | omega | (simp; omega) | (simp; done)) (by first | omega | (simp; omega) | (simp; done)) (hx.no c_66) (hl.no c_66)) ?_) 
        rintro _ w_79 ⟨r_73, m_74, cc_75, rfl, c_76, o_77, rfl⟩
        have c_80 := c_66.no c_76
        have z_81 := c_80.size
        have f_82 := f_68.no c_76
        have f_83 := f_69.no c_76
        have f_84 := f_70.no c_76
        have f_85 := f_71.no c_76
        have o_86 := K.Own.mono (base' := w0.heap.size) o_77 (by omega)
        refine K.RW.q rfl rfl (K.QR.k (v := .tuple #[.slice r_73 (((apply xs l).2).length) cc_75, .int .i64 ((apply xs l).1)]) (by kernel_rfl)) ?_
        refine K.RW.q rfl rfl (K.QR.k (v := .slice r_73 (((apply xs l).2).length) cc_75) (by kernel_rfl)) ?_
        refine K.RW.q rfl rfl (K.QR.k (v := .int .i64 ((apply xs l).1)) (by kernel_rfl)) ?_
        refine K.RW.q rfl rfl (K.QR.k (v := .slice r_73 (((apply xs l).2).length) cc_75) (by kernel_rfl)) ?_
        refine K.RW.q rfl rfl (K.QR.k (v := .int .i64 ((apply xs l).1)) (by kernel_rfl)) ?_
        refine K.RW.nil ?_
        refine K.thn_normal ?_
        refine K.KW.seq ?_
        -- region 8 law.go:106
        refine K.KW.region ?_
        refine K.RW.q rfl rfl (K.QR.k (v := .slice r_73 (((apply xs l).2).length) cc_75) (by kernel_rfl)) ?_
        refine K.RW.q rfl rfl (K.QR.k (v := .slice c m.length capp) (by kernel_rfl)) ?_
        refine K.RW.l rfl (K.OW.call rfl [.slice r_73 (((apply xs l).2).length) cc_75, .slice c m.length capp] rfl rfl (by kernel_rfl) (apply_ok _ _ _ _ ((apply xs l).2) m _ (by first | omega | (simp; omega) | (simp; done)) (by first | omega | (simp; omega) | (simp; done)) (K.Own.rowE 0 o_86 rfl (fun _ => rfl)) (hk.no c_80)) ?_) 
        rintro _ w_93 ⟨r_87, m_88, cc_89, rfl, c_90, o_91, rfl⟩
        have c_94 := c_80.no c_90
        have z_95 := c_94.size
        have f_96 := f_82.no c_90
        have f_97 := f_83.no c_90
        have f_98 := f_84.no c_90
        have f_99 := f_85.no c_90
        have f_100 := o_86.no c_90
        have o_101 := K.Own.mono (base' := w0.heap.size) o_91 (by omega)
        refine K.RW.q rfl rfl (K.QR.k (v := .tuple #[.slice r_87 (((apply ((apply xs l).2) m).2).length) cc_89, .int .i64 ((apply ((apply xs l).2) m).1)]) (by kernel_rfl)) ?_
        refine K.RW.q rfl rfl (K.QR.k (v := .slice r_87 (((apply ((apply xs l).2) m).2).length) cc_89) (by kernel_rfl)) ?_
        refine K.RW.q rfl rfl (K.QR.k (v := .int .i64 ((apply ((apply xs l).2) m).1)) (by kernel_rfl)) ?_
        refine K.RW.q rfl rfl (K.QR.k (v := .slice r_87 (((apply ((apply xs l).2) m).2).length) cc_89) (by kernel_rfl)) ?_
        refine K.RW.q rfl rfl (K.QR.k (v := .int .i64 ((apply ((apply xs l).2) m).1)) (by kernel_rfl)) ?_
        refine K.RW.nil ?_
        refine K.thn_normal ?_
        refine K.KW.seq ?_
        refine K.KW.seq ?_
        -- region 9 law.go:107
        refine K.KW.region ?_
        refine K.RW.q rfl rfl (K.QR.k (v := .int .i64 ((apply xs l).1)) (by kernel_rfl)) ?_
        by_cases h_102 : ((apply xs l).1 : Int) = (0 : Int)
        ·  -- yes
          refine K.RW.q rfl rfl (K.QR.nice (v := .bool (((apply xs l).1 : Int) != (0 : Int))) (by kernel_rfl) (congrArg Value.bool (bne_eq_false_iff_eq.2 h_102))) ?_
          refine K.RW.q rfl rfl (K.QR.k (v := .bool false) (by kernel_rfl)) ?_
          refine K.RW.q rfl (by kernel_rfl) (K.QR.k (v := .int .i64 ((apply ((apply xs l).2) m).1)) (by kernel_rfl)) ?_
          by_cases h_103 : ((apply ((apply xs l).2) m).1 : Int) = (0 : Int)
          ·  -- yes
            refine K.RW.q rfl (by kernel_rfl) (K.QR.nice (v := .bool (((apply ((apply xs l).2) m).1 : Int) != (0 : Int))) (by kernel_rfl) (congrArg Value.bool (bne_eq_false_iff_eq.2 h_103))) ?_
            refine K.RW.q rfl rfl (K.QR.k (v := .bool false) (by kernel_rfl)) ?_
            refine K.RW.nil ?_
            refine K.thn_normal ?_
            refine K.KW.ifF rfl ?_
            refine K.KW.skip ?_
            refine K.thn_normal ?_
            refine K.KW.seq ?_
            -- region 11 law.go:110
            refine K.KW.region ?_
            refine K.RW.q rfl rfl (K.QR.k (v := .slice a xs.length cap) (by kernel_rfl)) ?_
            refine K.RW.q rfl rfl (K.QR.k (v := .slice r_16 (((joinR l m).2).length) cc_18) (by kernel_rfl)) ?_
            refine K.RW.l rfl (K.OW.call rfl [.slice a xs.length cap, .slice r_16 (((joinR l m).2).length) cc_18] rfl rfl (by kernel_rfl) (apply_ok _ _ _ _ xs ((joinR l m).2) _ (by first | omega | (simp; omega) | (simp; done)) (by first | omega | (simp; omega) | (simp; done)) (hx.no c_94) (K.Own.rowE d3 f_96 rfl (fun _ => rfl))) ?_) 
            rintro _ w_110 ⟨r_104, m_105, cc_106, rfl, c_107, o_108, rfl⟩
            have c_111 := c_94.no c_107
            have z_112 := c_111.size
            have f_113 := f_96.no c_107
            have f_114 := f_97.no c_107
            have f_115 := f_98.no c_107
            have f_116 := f_99.no c_107
            have f_117 := f_100.no c_107
            have f_118 := o_101.no c_107
            have o_119 := K.Own.mono (base' := w0.heap.size) o_108 (by omega)
            refine K.RW.q rfl rfl (K.QR.k (v := .tuple #[.slice r_104 (((apply xs ((joinR l m).2)).2).length) cc_106, .int .i64 ((apply xs ((joinR l m).2)).1)]) (by kernel_rfl)) ?_
            refine K.RW.q rfl rfl (K.QR.k (v := .slice r_104 (((apply xs ((joinR l m).2)).2).length) cc_106) (by kernel_rfl)) ?_
            refine K.RW.q rfl rfl (K.QR.k (v := .int .i64 ((apply xs ((joinR l m).2)).1)) (by kernel_rfl)) ?_
            refine K.RW.q rfl rfl (K.QR.k (v := .slice r_104 (((apply xs ((joinR l m).2)).2).length) cc_106) (by kernel_rfl)) ?_
            refine K.RW.q rfl rfl (K.QR.k (v := .int .i64 ((apply xs ((joinR l m).2)).1)) (by kernel_rfl)) ?_
            refine K.RW.nil ?_
            refine K.thn_normal ?_
            refine K.KW.seq ?_
            -- region 12 law.go:111
            refine K.KW.region ?_
            refine K.RW.l rfl (K.OW.call rfl [] rfl rfl (by kernel_rfl) (awake34_ok _) ?_) 
            rintro _ w_121 ⟨rfl, c_120⟩
            have c_122 := c_111.no c_120
            have z_123 := c_122.size
            have f_124 := f_113.no c_120
            have f_125 := f_114.no c_120
            have f_126 := f_115.no c_120
            have f_127 := f_116.no c_120
            have f_128 := f_117.no c_120
            have f_129 := f_118.no c_120
            have f_130 := o_119.no c_120
            refine K.RW.q rfl rfl (K.QR.k (v := .bool true) (by kernel_rfl)) ?_
            refine K.RW.q rfl (by kernel_rfl) (K.QR.k (v := .int .i64 ((joinR l m).1)) (by kernel_rfl)) ?_
            refine K.RW.q rfl (by kernel_rfl) (K.QR.nice (v := .bool (((joinR l m).1 : Int) == (0 : Int))) (by kernel_rfl) (congrArg Value.bool (beq_iff_eq.2 (by exact (join_law (by assumption) (by assumption)).1)))) ?_
            refine K.RW.q rfl rfl (K.QR.k (v := .bool true) (by kernel_rfl)) ?_
            refine K.RW.q rfl rfl (K.QR.k (v := .bool true) (by kernel_rfl)) ?_
            refine K.RW.q rfl (by kernel_rfl) (K.QR.k (v := .int .i64 ((apply xs ((joinR l m).2)).1)) (by kernel_rfl)) ?_
            refine K.RW.q rfl (by kernel_rfl) (K.QR.nice (v := .bool (((apply xs ((joinR l m).2)).1 : Int) == (0 : Int))) (by kernel_rfl) (congrArg Value.bool (beq_iff_eq.2 (by exact (join_law (by assumption) (by assumption)).2.1)))) ?_
            refine K.RW.q rfl rfl (K.QR.k (v := .bool true) (by kernel_rfl)) ?_
            refine K.RW.q rfl rfl (K.QR.k (v := .bool true) (by kernel_rfl)) ?_
            refine K.RW.q rfl (by kernel_rfl) (K.QR.k (v := .slice r_104 (((apply xs ((joinR l m).2)).2).length) cc_106) (by kernel_rfl)) ?_
            refine K.RW.q rfl (by kernel_rfl) (K.QR.k (v := .slice r_87 (((apply ((apply xs l).2) m).2).length) cc_89) (by kernel_rfl)) ?_
            refine K.RW.l (by kernel_rfl) (K.OW.call rfl [.slice r_104 (((apply xs ((joinR l m).2)).2).length) cc_106, .slice r_87 (((apply ((apply xs l).2) m).2).length) cc_89] rfl rfl (by kernel_rfl) (same_ok _ _ _ _ ((apply xs ((joinR l m).2)).2) ((apply ((apply xs l).2) m).2) _ (by first | omega | (simp; omega) | simp) (K.Own.rowE 0 f_130 rfl (fun _ => rfl)) (K.Own.rowE 0 f_129 rfl (fun _ => rfl))) ?_) 
            rintro v_134 w_132 ⟨hv_133, c_131⟩
            have c_135 := c_122.no c_131
            have z_136 := c_135.size
            have f_137 := f_124.no c_131
            have f_138 := f_125.no c_131
            have f_139 := f_126.no c_131
            have f_140 := f_127.no c_131
            have f_141 := f_128.no c_131
            have f_142 := f_129.no c_131
            have f_143 := f_130.no c_131
            have hb_144 : sameB ((apply xs ((joinR l m).2)).2) ((apply ((apply xs l).2) m).2) = true := (by rw [(join_law (by assumption) (by assumption)).2.2]; exact decide_eq_true rfl)
            rw [hb_144] at hv_133; subst hv_133
            refine K.RW.q rfl rfl (K.QR.k (v := .bool true) (by kernel_rfl)) ?_
            refine K.RW.q rfl rfl (K.QR.k (v := .bool true) (by kernel_rfl)) ?_
            refine K.RW.nil ?_
            refine K.thn_normal ?_
            refine K.KW.ret ?_
            refine ⟨.inr rfl, (.bool true), K.res1 rfl rfl, ?_⟩
            exact ⟨rfl, c_135⟩
          ·  -- no
            refine K.RW.q rfl (by kernel_rfl) (K.QR.nice (v := .bool (((apply ((apply xs l).2) m).1 : Int) != (0 : Int))) (by kernel_rfl) (congrArg Value.bool (bne_iff_ne.2 h_103))) ?_
            refine K.RW.q rfl rfl (K.QR.k (v := .bool true) (by kernel_rfl)) ?_
            refine K.RW.nil ?_
            refine K.thn_normal ?_
            refine K.KW.ifT rfl ?_
            refine K.KW.seq ?_
            -- region 10 law.go:108
            refine K.KW.region ?_
            refine K.RW.l rfl (K.OW.call rfl [] rfl rfl (by kernel_rfl) (awake34_ok _) ?_) 
            rintro _ w_146 ⟨rfl, c_145⟩
            have c_147 := c_94.no c_145
            have z_148 := c_147.size
            have f_149 := f_96.no c_145
            have f_150 := f_97.no c_145
            have f_151 := f_98.no c_145
            have f_152 := f_99.no c_145
            have f_153 := f_100.no c_145
            have f_154 := o_101.no c_145
            refine K.RW.q rfl rfl (K.QR.k (v := .bool true) (by kernel_rfl)) ?_
            refine K.RW.nil ?_
            refine K.thn_normal ?_
            refine K.KW.ret ?_
            refine K.thn_ret ?_
            refine ⟨.inr rfl, (.bool true), K.res1 rfl rfl, ?_⟩
            exact ⟨rfl, c_147⟩
        ·  -- no
          refine K.RW.q rfl rfl (K.QR.nice (v := .bool (((apply xs l).1 : Int) != (0 : Int))) (by kernel_rfl) (congrArg Value.bool (bne_iff_ne.2 h_102))) ?_
          refine K.RW.q rfl rfl (K.QR.k (v := .bool true) (by kernel_rfl)) ?_
          refine K.RW.skip rfl (by kernel_rfl) ?_
          refine K.RW.skip rfl (by kernel_rfl) ?_
          refine K.RW.q rfl rfl (K.QR.k (v := .bool true) (by kernel_rfl)) ?_
          refine K.RW.nil ?_
          refine K.thn_normal ?_
          refine K.KW.ifT rfl ?_
          refine K.KW.seq ?_
          -- region 10 law.go:108
          refine K.KW.region ?_
          refine K.RW.l rfl (K.OW.call rfl [] rfl rfl (by kernel_rfl) (awake34_ok _) ?_) 
          rintro _ w_156 ⟨rfl, c_155⟩
          have c_157 := c_94.no c_155
          have z_158 := c_157.size
          have f_159 := f_96.no c_155
          have f_160 := f_97.no c_155
          have f_161 := f_98.no c_155
          have f_162 := f_99.no c_155
          have f_163 := f_100.no c_155
          have f_164 := o_101.no c_155
          refine K.RW.q rfl rfl (K.QR.k (v := .bool true) (by kernel_rfl)) ?_
          refine K.RW.nil ?_
          refine K.thn_normal ?_
          refine K.KW.ret ?_
          refine K.thn_ret ?_
          refine ⟨.inr rfl, (.bool true), K.res1 rfl rfl, ?_⟩
          exact ⟨rfl, c_157⟩

end Go.Proofs.Ytcmlompigmhddaa
