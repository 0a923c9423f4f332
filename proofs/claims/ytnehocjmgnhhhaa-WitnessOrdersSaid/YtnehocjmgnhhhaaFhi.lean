import Derived.Test.YtnehocjmgnhhhaaFmo
import Derived.Test.YtnehocjmgnhhhaaKf
/- Histories: which calls may be. -/
namespace Go.Proofs.Ytnehocjmgnhhhaa
open Go.RowKit
set_option linter.unusedVariables false
attribute [local irreducible] K.KW K.RW K.DW K.OW K.QR K.KC
structure CallM where
  th : Int
  ok : Int
  key : Int
  val : Int
  rk : Int
  rv : Int
  beg : Int
  en : Int
  wh : Int
  cr : Bool
  kp : Bool
deriving DecidableEq
def call0 : CallM := ⟨0, 0, 0, 0, 0, 0, 0, 0, 0, false, false⟩
def cCall (c : CallM) : List Value := [.int .i64 c.th, .int .i64 c.ok, .int .u32 c.key, .int .u32 c.val, .int .i64 c.rk, .int .u32 c.rv, .int .i64 c.beg, .int .i64 c.en, .int .i64 c.wh, .bool c.cr, .bool c.kp]
theorem K.all_snoc {p : Nat → Prop} {i : Nat} (h : ∀ j, j < i → p j) (hi : p i) : ∀ j, j < i + 1 → p j := fun j hj => by
  rcases Nat.lt_or_ge j i with h' | h'
  · exact h j h'
  · obtain rfl : j = i := by omega
    exact hi
def looksK (k : Int) : Prop := k = 5 ∨ k = 7
/-- may an operation end so? -/
def canK (op kind : Int) : Prop := (kind = 1 ∧ ¬ looksK op) ∨ (kind = 2 ∧ op = 2) ∨ (kind = 3 ∧ (op = 3 ∨ op = 6 ∨ looksK op)) ∨ (kind = 4 ∧ (op = 4 ∨ op = 8 ∨ looksK op)) ∨ (kind = 5 ∧ ¬ looksK op)
/-- may there be a value then? -/
def valdK (op kind : Int) : Prop := (kind = 1 ∧ (op = 2 ∨ op = 8)) ∨ (kind = 3 ∧ (op = 6 ∨ op = 7))
def brokenH (c : CallM) : Prop := (c.en = -1 ∧ c.rk = 0 ∧ c.rv = 0) ∧ ((c.wh = -1 ∧ c.kp = false) ∨ (¬ c.wh = -1 ∧ c.beg < c.wh ∧ ¬ looksK c.ok))
def answeredH (c : CallM) : Prop := (c.kp = false ∧ c.beg < c.wh ∧ c.wh ≤ c.en) ∧ canK c.ok c.rk ∧ (c.rv = 0 ∨ valdK c.ok c.rk)
/-- a call that may be -/
def mayH (c : CallM) : Prop := ((1 ≤ c.ok ∧ c.ok ≤ 8) ∧ 0 ≤ c.beg) ∧ ((c.cr = true ∧ brokenH c) ∨ (c.cr = false ∧ answeredH c))
/-- a call that is over when another begins -/
def aheadH (a b : CallM) : Prop := ¬ a.en = -1 ∧ a.en ≤ b.beg
instance (a b : CallM) : Decidable (aheadH a b) := inferInstanceAs (Decidable (_ ∧ _))
set_option maxHeartbeats 1000000 in
set_option maxRecDepth 100000 in
theorem kindG_ok (w0 : World) (k : Int) :
    K.GC Try.prog w0 59 #[.int .i64 k] [] (fun v post => post = [] ∧ (((1 ≤ k ∧ k ≤ 8) ∧ v = .bool true) ∨ (¬ ((1 ≤ k ∧ k ≤ 8)) ∧ v = .bool false))) := by
  refine K.GC.mk (n := 9) Try.func59 rfl rfl [.int .i64 k] rfl rfl ?_
  intro fr w hS
  replace hS : K.Sat w0 [fr] w := hS
  refine K.KW.seq ?_
  -- 0 :40
  refine K.KW.region ?_
  refine K.RW.qs [.bool false] (by kernel_rfl) ?_
  refine K.RW.nil ?_
  refine K.thn_normal ?_
  refine K.KW.seq ?_
  -- 1 :40
  refine K.KW.region ?_
  refine K.RW.qs [.int .i64 k] (by kernel_rfl) ?_
  by_cases h_1 : (k : Int) ≥ (1 : Int)
  ·  -- yes
    refine K.RW.q rfl rfl (K.QR.nice (v := .bool (decide ((k : Int) ≥ (1 : Int)))) (by kernel_rfl) (congrArg Value.bool (decide_eq_true h_1))) ?_
    refine K.RW.qs [.bool true, .int .i64 k] (by kernel_rfl) ?_
    by_cases h_2 : (k : Int) ≤ (8 : Int)
    ·  -- yes
      refine K.RW.q rfl (by kernel_rfl) (K.QR.nice (v := .bool (decide ((k : Int) ≤ (8 : Int)))) (by kernel_rfl) (congrArg Value.bool (decide_eq_true h_2))) ?_
      refine K.RW.qs [.bool true, .bool true] (by kernel_rfl) ?_
      refine K.RW.nil ?_
      refine K.thn_normal ?_
      refine K.KW.ret ?_
      refine ⟨.inr rfl, rfl, (.bool true), K.res1 rfl rfl, [], ?_, hS.pick [0]⟩
      exact ⟨rfl, .inl ⟨by omega, rfl⟩⟩
    ·  -- no
      refine K.RW.q rfl (by kernel_rfl) (K.QR.nice (v := .bool (decide ((k : Int) ≤ (8 : Int)))) (by kernel_rfl) (congrArg Value.bool (decide_eq_false h_2))) ?_
      refine K.RW.qs [.bool false, .bool false] (by kernel_rfl) ?_
      refine K.RW.nil ?_
      refine K.thn_normal ?_
      refine K.KW.ret ?_
      refine ⟨.inr rfl, rfl, (.bool false), K.res1 rfl rfl, [], ?_, hS.pick [0]⟩
      exact ⟨rfl, .inr ⟨by omega, rfl⟩⟩
  ·  -- no
    refine K.RW.q rfl rfl (K.QR.nice (v := .bool (decide ((k : Int) ≥ (1 : Int)))) (by kernel_rfl) (congrArg Value.bool (decide_eq_false h_1))) ?_
    refine K.RW.qs [.bool false] (by kernel_rfl) ?_
    refine K.RW.skip rfl (by kernel_rfl) ?_
    refine K.RW.skip rfl (by kernel_rfl) ?_
    refine K.RW.qs [.bool false, .bool false] (by kernel_rfl) ?_
    refine K.RW.nil ?_
    refine K.thn_normal ?_
    refine K.KW.ret ?_
    refine ⟨.inr rfl, rfl, (.bool false), K.res1 rfl rfl, [], ?_, hS.pick [0]⟩
    exact ⟨rfl, .inr ⟨by omega, rfl⟩⟩
set_option maxHeartbeats 1000000 in
set_option maxRecDepth 100000 in
theorem looksG_ok (w0 : World) (k : Int) :
    K.GC Try.prog w0 78 #[.int .i64 k] [] (fun v post => post = [] ∧ ((looksK k ∧ v = .bool true) ∨ (¬ (looksK k) ∧ v = .bool false))) := by
  refine K.GC.mk (n := 9) Try.func78 rfl rfl [.int .i64 k] rfl rfl ?_
  intro fr w hS
  replace hS : K.Sat w0 [fr] w := hS
  refine K.KW.seq ?_
  -- 0 :43
  refine K.KW.region ?_
  refine K.RW.qs [.bool false] (by kernel_rfl) ?_
  refine K.RW.nil ?_
  refine K.thn_normal ?_
  refine K.KW.seq ?_
  -- 1 :43
  refine K.KW.region ?_
  refine K.RW.qs [.int .i64 k] (by kernel_rfl) ?_
  by_cases h_1 : (k : Int) = (5 : Int)
  ·  -- yes
    refine K.RW.q rfl rfl (K.QR.nice (v := .bool ((k : Int) == (5 : Int))) (by kernel_rfl) (congrArg Value.bool (beq_iff_eq.2 h_1))) ?_
    refine K.RW.qs [.bool true] (by kernel_rfl) ?_
    refine K.RW.skip rfl (by kernel_rfl) ?_
    refine K.RW.skip rfl (by kernel_rfl) ?_
    refine K.RW.qs [.bool true, .bool true] (by kernel_rfl) ?_
    refine K.RW.nil ?_
    refine K.thn_normal ?_
    refine K.KW.ret ?_
    refine ⟨.inr rfl, rfl, (.bool true), K.res1 rfl rfl, [], ?_, hS.pick [0]⟩
    exact ⟨rfl, .inl ⟨by unfold looksK; omega, rfl⟩⟩
  ·  -- no
    refine K.RW.q rfl rfl (K.QR.nice (v := .bool ((k : Int) == (5 : Int))) (by kernel_rfl) (congrArg Value.bool (beq_eq_false_iff_ne.2 h_1))) ?_
    refine K.RW.qs [.bool false, .int .i64 k] (by kernel_rfl) ?_
    by_cases h_2 : (k : Int) = (7 : Int)
    ·  -- yes
      refine K.RW.q rfl (by kernel_rfl) (K.QR.nice (v := .bool ((k : Int) == (7 : Int))) (by kernel_rfl) (congrArg Value.bool (beq_iff_eq.2 h_2))) ?_
      refine K.RW.qs [.bool true, .bool true] (by kernel_rfl) ?_
      refine K.RW.nil ?_
      refine K.thn_normal ?_
      refine K.KW.ret ?_
      refine ⟨.inr rfl, rfl, (.bool true), K.res1 rfl rfl, [], ?_, hS.pick [0]⟩
      exact ⟨rfl, .inl ⟨by unfold looksK; omega, rfl⟩⟩
    ·  -- no
      refine K.RW.q rfl (by kernel_rfl) (K.QR.nice (v := .bool ((k : Int) == (7 : Int))) (by kernel_rfl) (congrArg Value.bool (beq_eq_false_iff_ne.2 h_2))) ?_
      refine K.RW.qs [.bool false, .bool false] (by kernel_rfl) ?_
      refine K.RW.nil ?_
      refine K.thn_normal ?_
      refine K.KW.ret ?_
      refine ⟨.inr rfl, rfl, (.bool false), K.res1 rfl rfl, [], ?_, hS.pick [0]⟩
      exact ⟨rfl, .inr ⟨fun hh => by unfold looksK at hh; omega, rfl⟩⟩
set_option maxHeartbeats 1000000 in
set_option maxRecDepth 100000 in
theorem can_ok (w0 : World) (op kind : Int) :
    K.GC Try.prog w0 79 #[.int .i64 op, .int .i64 kind] [] (fun v post => post = [] ∧ ((canK op kind ∧ v = .bool true) ∨ (¬ (canK op kind) ∧ v = .bool false))) := by
  refine K.GC.mk (n := 44) Try.func79 rfl rfl [.int .i64 op, .int .i64 kind] rfl rfl ?_
  intro fr w hS
  replace hS : K.Sat w0 [fr] w := hS
  refine K.KW.seq ?_
  -- 0 :10
  refine K.KW.region ?_
  refine K.RW.qs [.bool false] (by kernel_rfl) ?_
  refine K.RW.nil ?_
  refine K.thn_normal ?_
  refine K.KW.seq ?_
  refine K.KW.seq ?_
  -- 1 :11
  refine K.KW.region ?_
  refine K.RW.qs [.int .i64 kind] (by kernel_rfl) ?_
  refine K.RW.nil ?_
  refine K.thn_normal ?_
  refine K.KW.block ?_
  refine K.KW.seq ?_
  -- 2 :12
  refine K.KW.region ?_
  by_cases h_1 : (kind : Int) = (1 : Int)
  ·  -- yes
    refine K.RW.q rfl rfl (K.QR.nice (v := .bool ((kind : Int) == (1 : Int))) (by kernel_rfl) (congrArg Value.bool (beq_iff_eq.2 h_1))) ?_
    refine K.RW.qs [.bool true] (by kernel_rfl) ?_
    refine K.RW.nil ?_
    refine K.thn_normal ?_
    refine K.KW.ifT rfl ?_
    refine K.KW.seq ?_
    -- 3 :13
    refine K.KW.region ?_
    refine K.RW.qs [.int .i64 op] (by kernel_rfl) ?_
    refine K.RW.l rfl (K.OW.gcall hS [] [0] [.int .i64 op] (looksG_ok _ op) ?_)
    clear hS; rintro _ _ w ⟨rfl, (⟨h_2, rfl⟩ | ⟨h_3, rfl⟩)⟩ hS
    ·
      replace hS : K.Sat w0 [fr] w := hS
      refine K.RW.qs [.bool false, .bool false] (by kernel_rfl) ?_
      refine K.RW.nil ?_
      refine K.thn_normal ?_
      refine K.KW.ret ?_
      refine K.blk_ret ?_
      refine K.thn_ret ?_
      refine ⟨.inr rfl, rfl, (.bool false), K.res1 rfl rfl, [], ?_, hS.pick [0]⟩
      exact ⟨rfl, .inr ⟨fun hh => by unfold canK at hh; unfold looksK at *; omega, rfl⟩⟩
    ·
      replace hS : K.Sat w0 [fr] w := hS
      refine K.RW.qs [.bool true, .bool true] (by kernel_rfl) ?_
      refine K.RW.nil ?_
      refine K.thn_normal ?_
      refine K.KW.ret ?_
      refine K.blk_ret ?_
      refine K.thn_ret ?_
      refine ⟨.inr rfl, rfl, (.bool true), K.res1 rfl rfl, [], ?_, hS.pick [0]⟩
      exact ⟨rfl, .inl ⟨by unfold canK; unfold looksK at *; omega, rfl⟩⟩
  ·  -- no
    refine K.RW.q rfl rfl (K.QR.nice (v := .bool ((kind : Int) == (1 : Int))) (by kernel_rfl) (congrArg Value.bool (beq_eq_false_iff_ne.2 h_1))) ?_
    refine K.RW.qs [.bool false] (by kernel_rfl) ?_
    refine K.RW.nil ?_
    refine K.thn_normal ?_
    refine K.KW.ifF rfl ?_
    refine K.KW.seq ?_
    -- 4 :14
    refine K.KW.region ?_
    by_cases h_4 : (kind : Int) = (2 : Int)
    ·  -- yes
      refine K.RW.q rfl rfl (K.QR.nice (v := .bool ((kind : Int) == (2 : Int))) (by kernel_rfl) (congrArg Value.bool (beq_iff_eq.2 h_4))) ?_
      refine K.RW.qs [.bool true] (by kernel_rfl) ?_
      refine K.RW.nil ?_
      refine K.thn_normal ?_
      refine K.KW.ifT rfl ?_
      refine K.KW.seq ?_
      -- 5 :15
      refine K.KW.region ?_
      refine K.RW.qs [.int .i64 op] (by kernel_rfl) ?_
      by_cases h_5 : (op : Int) = (2 : Int)
      ·  -- yes
        refine K.RW.q rfl rfl (K.QR.nice (v := .bool ((op : Int) == (2 : Int))) (by kernel_rfl) (congrArg Value.bool (beq_iff_eq.2 h_5))) ?_
        refine K.RW.qs [.bool true] (by kernel_rfl) ?_
        refine K.RW.nil ?_
        refine K.thn_normal ?_
        refine K.KW.ret ?_
        refine K.blk_ret ?_
        refine K.thn_ret ?_
        refine ⟨.inr rfl, rfl, (.bool true), K.res1 rfl rfl, [], ?_, hS.pick [0]⟩
        exact ⟨rfl, .inl ⟨by unfold canK; unfold looksK at *; omega, rfl⟩⟩
      ·  -- no
        refine K.RW.q rfl rfl (K.QR.nice (v := .bool ((op : Int) == (2 : Int))) (by kernel_rfl) (congrArg Value.bool (beq_eq_false_iff_ne.2 h_5))) ?_
        refine K.RW.qs [.bool false] (by kernel_rfl) ?_
        refine K.RW.nil ?_
        refine K.thn_normal ?_
        refine K.KW.ret ?_
        refine K.blk_ret ?_
        refine K.thn_ret ?_
        refine ⟨.inr rfl, rfl, (.bool false), K.res1 rfl rfl, [], ?_, hS.pick [0]⟩
        exact ⟨rfl, .inr ⟨fun hh => by unfold canK at hh; unfold looksK at *; omega, rfl⟩⟩
    ·  -- no
      refine K.RW.q rfl rfl (K.QR.nice (v := .bool ((kind : Int) == (2 : Int))) (by kernel_rfl) (congrArg Value.bool (beq_eq_false_iff_ne.2 h_4))) ?_
      refine K.RW.qs [.bool false] (by kernel_rfl) ?_
      refine K.RW.nil ?_
      refine K.thn_normal ?_
      refine K.KW.ifF rfl ?_
      refine K.KW.seq ?_
      -- 6 :16
      refine K.KW.region ?_
      by_cases h_6 : (kind : Int) = (3 : Int)
      ·  -- yes
        refine K.RW.q rfl rfl (K.QR.nice (v := .bool ((kind : Int) == (3 : Int))) (by kernel_rfl) (congrArg Value.bool (beq_iff_eq.2 h_6))) ?_
        refine K.RW.qs [.bool true] (by kernel_rfl) ?_
        refine K.RW.nil ?_
        refine K.thn_normal ?_
        refine K.KW.ifT rfl ?_
        refine K.KW.seq ?_
        -- 7 :17
        refine K.KW.region ?_
        refine K.RW.qs [.int .i64 op] (by kernel_rfl) ?_
        by_cases h_7 : (op : Int) = (3 : Int)
        ·  -- yes
          refine K.RW.q rfl rfl (K.QR.nice (v := .bool ((op : Int) == (3 : Int))) (by kernel_rfl) (congrArg Value.bool (beq_iff_eq.2 h_7))) ?_
          refine K.RW.qs [.bool true] (by kernel_rfl) ?_
          refine K.RW.skip rfl (by kernel_rfl) ?_
          refine K.RW.skip rfl (by kernel_rfl) ?_
          refine K.RW.qs [.bool true, .bool true] (by kernel_rfl) ?_
          refine K.RW.skip rfl (by kernel_rfl) ?_
          refine K.RW.skip rfl (by kernel_rfl) ?_
          refine K.RW.qs [.bool true, .bool true] (by kernel_rfl) ?_
          refine K.RW.nil ?_
          refine K.thn_normal ?_
          refine K.KW.ret ?_
          refine K.blk_ret ?_
          refine K.thn_ret ?_
          refine ⟨.inr rfl, rfl, (.bool true), K.res1 rfl rfl, [], ?_, hS.pick [0]⟩
          exact ⟨rfl, .inl ⟨by unfold canK; unfold looksK at *; omega, rfl⟩⟩
        ·  -- no
          refine K.RW.q rfl rfl (K.QR.nice (v := .bool ((op : Int) == (3 : Int))) (by kernel_rfl) (congrArg Value.bool (beq_eq_false_iff_ne.2 h_7))) ?_
          refine K.RW.qs [.bool false, .int .i64 op] (by kernel_rfl) ?_
          by_cases h_8 : (op : Int) = (6 : Int)
          ·  -- yes
            refine K.RW.q rfl (by kernel_rfl) (K.QR.nice (v := .bool ((op : Int) == (6 : Int))) (by kernel_rfl) (congrArg Value.bool (beq_iff_eq.2 h_8))) ?_
            refine K.RW.qs [.bool true, .bool true] (by kernel_rfl) ?_
            refine K.RW.skip rfl (by kernel_rfl) ?_
            refine K.RW.skip rfl (by kernel_rfl) ?_
            refine K.RW.qs [.bool true, .bool true] (by kernel_rfl) ?_
            refine K.RW.nil ?_
            refine K.thn_normal ?_
            refine K.KW.ret ?_
            refine K.blk_ret ?_
            refine K.thn_ret ?_
            refine ⟨.inr rfl, rfl, (.bool true), K.res1 rfl rfl, [], ?_, hS.pick [0]⟩
            exact ⟨rfl, .inl ⟨by unfold canK; unfold looksK at *; omega, rfl⟩⟩
          ·  -- no
            refine K.RW.q rfl (by kernel_rfl) (K.QR.nice (v := .bool ((op : Int) == (6 : Int))) (by kernel_rfl) (congrArg Value.bool (beq_eq_false_iff_ne.2 h_8))) ?_
            refine K.RW.qs [.bool false, .bool false, .int .i64 op] (by kernel_rfl) ?_
            refine K.RW.l (by kernel_rfl) (K.OW.gcall hS [] [0] [.int .i64 op] (looksG_ok _ op) ?_)
            clear hS; rintro _ _ w ⟨rfl, (⟨h_9, rfl⟩ | ⟨h_10, rfl⟩)⟩ hS
            ·
              replace hS : K.Sat w0 [fr] w := hS
              refine K.RW.qs [.bool true, .bool true] (by kernel_rfl) ?_
              refine K.RW.nil ?_
              refine K.thn_normal ?_
              refine K.KW.ret ?_
              refine K.blk_ret ?_
              refine K.thn_ret ?_
              refine ⟨.inr rfl, rfl, (.bool true), K.res1 rfl rfl, [], ?_, hS.pick [0]⟩
              exact ⟨rfl, .inl ⟨by unfold canK; unfold looksK at *; omega, rfl⟩⟩
            ·
              replace hS : K.Sat w0 [fr] w := hS
              refine K.RW.qs [.bool false, .bool false] (by kernel_rfl) ?_
              refine K.RW.nil ?_
              refine K.thn_normal ?_
              refine K.KW.ret ?_
              refine K.blk_ret ?_
              refine K.thn_ret ?_
              refine ⟨.inr rfl, rfl, (.bool false), K.res1 rfl rfl, [], ?_, hS.pick [0]⟩
              exact ⟨rfl, .inr ⟨fun hh => by unfold canK at hh; unfold looksK at *; omega, rfl⟩⟩
      ·  -- no
        refine K.RW.q rfl rfl (K.QR.nice (v := .bool ((kind : Int) == (3 : Int))) (by kernel_rfl) (congrArg Value.bool (beq_eq_false_iff_ne.2 h_6))) ?_
        refine K.RW.qs [.bool false] (by kernel_rfl) ?_
        refine K.RW.nil ?_
        refine K.thn_normal ?_
        refine K.KW.ifF rfl ?_
        refine K.KW.seq ?_
        -- 8 :18
        refine K.KW.region ?_
        by_cases h_11 : (kind : Int) = (4 : Int)
        ·  -- yes
          refine K.RW.q rfl rfl (K.QR.nice (v := .bool ((kind : Int) == (4 : Int))) (by kernel_rfl) (congrArg Value.bool (beq_iff_eq.2 h_11))) ?_
          refine K.RW.qs [.bool true] (by kernel_rfl) ?_
          refine K.RW.nil ?_
          refine K.thn_normal ?_
          refine K.KW.ifT rfl ?_
          refine K.KW.seq ?_
          -- 9 :19
          refine K.KW.region ?_
          refine K.RW.qs [.int .i64 op] (by kernel_rfl) ?_
          by_cases h_12 : (op : Int) = (4 : Int)
          ·  -- yes
            refine K.RW.q rfl rfl (K.QR.nice (v := .bool ((op : Int) == (4 : Int))) (by kernel_rfl) (congrArg Value.bool (beq_iff_eq.2 h_12))) ?_
            refine K.RW.qs [.bool true] (by kernel_rfl) ?_
            refine K.RW.skip rfl (by kernel_rfl) ?_
            refine K.RW.skip rfl (by kernel_rfl) ?_
            refine K.RW.qs [.bool true, .bool true] (by kernel_rfl) ?_
            refine K.RW.skip rfl (by kernel_rfl) ?_
            refine K.RW.skip rfl (by kernel_rfl) ?_
            refine K.RW.qs [.bool true, .bool true] (by kernel_rfl) ?_
            refine K.RW.nil ?_
            refine K.thn_normal ?_
            refine K.KW.ret ?_
            refine K.blk_ret ?_
            refine K.thn_ret ?_
            refine ⟨.inr rfl, rfl, (.bool true), K.res1 rfl rfl, [], ?_, hS.pick [0]⟩
            exact ⟨rfl, .inl ⟨by unfold canK; unfold looksK at *; omega, rfl⟩⟩
          ·  -- no
            refine K.RW.q rfl rfl (K.QR.nice (v := .bool ((op : Int) == (4 : Int))) (by kernel_rfl) (congrArg Value.bool (beq_eq_false_iff_ne.2 h_12))) ?_
            refine K.RW.qs [.bool false, .int .i64 op] (by kernel_rfl) ?_
            by_cases h_13 : (op : Int) = (8 : Int)
            ·  -- yes
              refine K.RW.q rfl (by kernel_rfl) (K.QR.nice (v := .bool ((op : Int) == (8 : Int))) (by kernel_rfl) (congrArg Value.bool (beq_iff_eq.2 h_13))) ?_
              refine K.RW.qs [.bool true, .bool true] (by kernel_rfl) ?_
              refine K.RW.skip rfl (by kernel_rfl) ?_
              refine K.RW.skip rfl (by kernel_rfl) ?_
              refine K.RW.qs [.bool true, .bool true] (by kernel_rfl) ?_
              refine K.RW.nil ?_
              refine K.thn_normal ?_
              refine K.KW.ret ?_
              refine K.blk_ret ?_
              refine K.thn_ret ?_
              refine ⟨.inr rfl, rfl, (.bool true), K.res1 rfl rfl, [], ?_, hS.pick [0]⟩
              exact ⟨rfl, .inl ⟨by unfold canK; unfold looksK at *; omega, rfl⟩⟩
            ·  -- no
              refine K.RW.q rfl (by kernel_rfl) (K.QR.nice (v := .bool ((op : Int) == (8 : Int))) (by kernel_rfl) (congrArg Value.bool (beq_eq_false_iff_ne.2 h_13))) ?_
              refine K.RW.qs [.bool false, .bool false, .int .i64 op] (by kernel_rfl) ?_
              refine K.RW.l (by kernel_rfl) (K.OW.gcall hS [] [0] [.int .i64 op] (looksG_ok _ op) ?_)
              clear hS; rintro _ _ w ⟨rfl, (⟨h_14, rfl⟩ | ⟨h_15, rfl⟩)⟩ hS
              ·
                replace hS : K.Sat w0 [fr] w := hS
                refine K.RW.qs [.bool true, .bool true] (by kernel_rfl) ?_
                refine K.RW.nil ?_
                refine K.thn_normal ?_
                refine K.KW.ret ?_
                refine K.blk_ret ?_
                refine K.thn_ret ?_
                refine ⟨.inr rfl, rfl, (.bool true), K.res1 rfl rfl, [], ?_, hS.pick [0]⟩
                exact ⟨rfl, .inl ⟨by unfold canK; unfold looksK at *; omega, rfl⟩⟩
              ·
                replace hS : K.Sat w0 [fr] w := hS
                refine K.RW.qs [.bool false, .bool false] (by kernel_rfl) ?_
                refine K.RW.nil ?_
                refine K.thn_normal ?_
                refine K.KW.ret ?_
                refine K.blk_ret ?_
                refine K.thn_ret ?_
                refine ⟨.inr rfl, rfl, (.bool false), K.res1 rfl rfl, [], ?_, hS.pick [0]⟩
                exact ⟨rfl, .inr ⟨fun hh => by unfold canK at hh; unfold looksK at *; omega, rfl⟩⟩
        ·  -- no
          refine K.RW.q rfl rfl (K.QR.nice (v := .bool ((kind : Int) == (4 : Int))) (by kernel_rfl) (congrArg Value.bool (beq_eq_false_iff_ne.2 h_11))) ?_
          refine K.RW.qs [.bool false] (by kernel_rfl) ?_
          refine K.RW.nil ?_
          refine K.thn_normal ?_
          refine K.KW.ifF rfl ?_
          refine K.KW.seq ?_
          -- 10 :20
          refine K.KW.region ?_
          by_cases h_16 : (kind : Int) = (5 : Int)
          ·  -- yes
            refine K.RW.q rfl rfl (K.QR.nice (v := .bool ((kind : Int) == (5 : Int))) (by kernel_rfl) (congrArg Value.bool (beq_iff_eq.2 h_16))) ?_
            refine K.RW.qs [.bool true] (by kernel_rfl) ?_
            refine K.RW.nil ?_
            refine K.thn_normal ?_
            refine K.KW.ifT rfl ?_
            refine K.KW.seq ?_
            -- 11 :21
            refine K.KW.region ?_
            refine K.RW.qs [.int .i64 op] (by kernel_rfl) ?_
            refine K.RW.l rfl (K.OW.gcall hS [] [0] [.int .i64 op] (looksG_ok _ op) ?_)
            clear hS; rintro _ _ w ⟨rfl, (⟨h_17, rfl⟩ | ⟨h_18, rfl⟩)⟩ hS
            ·
              replace hS : K.Sat w0 [fr] w := hS
              refine K.RW.qs [.bool false, .bool false] (by kernel_rfl) ?_
              refine K.RW.nil ?_
              refine K.thn_normal ?_
              refine K.KW.ret ?_
              refine K.blk_ret ?_
              refine K.thn_ret ?_
              refine ⟨.inr rfl, rfl, (.bool false), K.res1 rfl rfl, [], ?_, hS.pick [0]⟩
              exact ⟨rfl, .inr ⟨fun hh => by unfold canK at hh; unfold looksK at *; omega, rfl⟩⟩
            ·
              replace hS : K.Sat w0 [fr] w := hS
              refine K.RW.qs [.bool true, .bool true] (by kernel_rfl) ?_
              refine K.RW.nil ?_
              refine K.thn_normal ?_
              refine K.KW.ret ?_
              refine K.blk_ret ?_
              refine K.thn_ret ?_
              refine ⟨.inr rfl, rfl, (.bool true), K.res1 rfl rfl, [], ?_, hS.pick [0]⟩
              exact ⟨rfl, .inl ⟨by unfold canK; unfold looksK at *; omega, rfl⟩⟩
          ·  -- no
            refine K.RW.q rfl rfl (K.QR.nice (v := .bool ((kind : Int) == (5 : Int))) (by kernel_rfl) (congrArg Value.bool (beq_eq_false_iff_ne.2 h_16))) ?_
            refine K.RW.qs [.bool false] (by kernel_rfl) ?_
            refine K.RW.nil ?_
            refine K.thn_normal ?_
            refine K.KW.ifF rfl ?_
            refine K.KW.skip ?_
            refine K.blk_normal ?_
            refine K.thn_normal ?_
            refine K.KW.seq ?_
            -- 12 :23
            refine K.KW.region ?_
            refine K.RW.qs [.bool false] (by kernel_rfl) ?_
            refine K.RW.nil ?_
            refine K.thn_normal ?_
            refine K.KW.ret ?_
            refine ⟨.inr rfl, rfl, (.bool false), K.res1 rfl rfl, [], ?_, hS.pick [0]⟩
            exact ⟨rfl, .inr ⟨fun hh => by unfold canK at hh; unfold looksK at *; omega, rfl⟩⟩
set_option maxHeartbeats 1000000 in
set_option maxRecDepth 100000 in
theorem vald_ok (w0 : World) (op kind : Int) :
    K.GC Try.prog w0 80 #[.int .i64 op, .int .i64 kind] [] (fun v post => post = [] ∧ ((valdK op kind ∧ v = .bool true) ∨ (¬ (valdK op kind) ∧ v = .bool false))) := by
  refine K.GC.mk (n := 22) Try.func80 rfl rfl [.int .i64 op, .int .i64 kind] rfl rfl ?_
  intro fr w hS
  replace hS : K.Sat w0 [fr] w := hS
  refine K.KW.seq ?_
  -- 0 :27
  refine K.KW.region ?_
  refine K.RW.qs [.bool false] (by kernel_rfl) ?_
  refine K.RW.nil ?_
  refine K.thn_normal ?_
  refine K.KW.seq ?_
  refine K.KW.seq ?_
  -- 1 :28
  refine K.KW.region ?_
  refine K.RW.qs [.int .i64 kind] (by kernel_rfl) ?_
  refine K.RW.nil ?_
  refine K.thn_normal ?_
  refine K.KW.block ?_
  refine K.KW.seq ?_
  -- 2 :29
  refine K.KW.region ?_
  by_cases h_1 : (kind : Int) = (1 : Int)
  ·  -- yes
    refine K.RW.q rfl rfl (K.QR.nice (v := .bool ((kind : Int) == (1 : Int))) (by kernel_rfl) (congrArg Value.bool (beq_iff_eq.2 h_1))) ?_
    refine K.RW.qs [.bool true] (by kernel_rfl) ?_
    refine K.RW.nil ?_
    refine K.thn_normal ?_
    refine K.KW.ifT rfl ?_
    refine K.KW.seq ?_
    -- 3 :30
    refine K.KW.region ?_
    refine K.RW.qs [.int .i64 op] (by kernel_rfl) ?_
    by_cases h_2 : (op : Int) = (2 : Int)
    ·  -- yes
      refine K.RW.q rfl rfl (K.QR.nice (v := .bool ((op : Int) == (2 : Int))) (by kernel_rfl) (congrArg Value.bool (beq_iff_eq.2 h_2))) ?_
      refine K.RW.qs [.bool true] (by kernel_rfl) ?_
      refine K.RW.skip rfl (by kernel_rfl) ?_
      refine K.RW.skip rfl (by kernel_rfl) ?_
      refine K.RW.qs [.bool true, .bool true] (by kernel_rfl) ?_
      refine K.RW.nil ?_
      refine K.thn_normal ?_
      refine K.KW.ret ?_
      refine K.blk_ret ?_
      refine K.thn_ret ?_
      refine ⟨.inr rfl, rfl, (.bool true), K.res1 rfl rfl, [], ?_, hS.pick [0]⟩
      exact ⟨rfl, .inl ⟨by unfold valdK; omega, rfl⟩⟩
    ·  -- no
      refine K.RW.q rfl rfl (K.QR.nice (v := .bool ((op : Int) == (2 : Int))) (by kernel_rfl) (congrArg Value.bool (beq_eq_false_iff_ne.2 h_2))) ?_
      refine K.RW.qs [.bool false, .int .i64 op] (by kernel_rfl) ?_
      by_cases h_3 : (op : Int) = (8 : Int)
      ·  -- yes
        refine K.RW.q rfl (by kernel_rfl) (K.QR.nice (v := .bool ((op : Int) == (8 : Int))) (by kernel_rfl) (congrArg Value.bool (beq_iff_eq.2 h_3))) ?_
        refine K.RW.qs [.bool true, .bool true] (by kernel_rfl) ?_
        refine K.RW.nil ?_
        refine K.thn_normal ?_
        refine K.KW.ret ?_
        refine K.blk_ret ?_
        refine K.thn_ret ?_
        refine ⟨.inr rfl, rfl, (.bool true), K.res1 rfl rfl, [], ?_, hS.pick [0]⟩
        exact ⟨rfl, .inl ⟨by unfold valdK; omega, rfl⟩⟩
      ·  -- no
        refine K.RW.q rfl (by kernel_rfl) (K.QR.nice (v := .bool ((op : Int) == (8 : Int))) (by kernel_rfl) (congrArg Value.bool (beq_eq_false_iff_ne.2 h_3))) ?_
        refine K.RW.qs [.bool false, .bool false] (by kernel_rfl) ?_
        refine K.RW.nil ?_
        refine K.thn_normal ?_
        refine K.KW.ret ?_
        refine K.blk_ret ?_
        refine K.thn_ret ?_
        refine ⟨.inr rfl, rfl, (.bool false), K.res1 rfl rfl, [], ?_, hS.pick [0]⟩
        exact ⟨rfl, .inr ⟨fun hh => by unfold valdK at hh; omega, rfl⟩⟩
  ·  -- no
    refine K.RW.q rfl rfl (K.QR.nice (v := .bool ((kind : Int) == (1 : Int))) (by kernel_rfl) (congrArg Value.bool (beq_eq_false_iff_ne.2 h_1))) ?_
    refine K.RW.qs [.bool false] (by kernel_rfl) ?_
    refine K.RW.nil ?_
    refine K.thn_normal ?_
    refine K.KW.ifF rfl ?_
    refine K.KW.seq ?_
    -- 4 :31
    refine K.KW.region ?_
    by_cases h_4 : (kind : Int) = (3 : Int)
    ·  -- yes
      refine K.RW.q rfl rfl (K.QR.nice (v := .bool ((kind : Int) == (3 : Int))) (by kernel_rfl) (congrArg Value.bool (beq_iff_eq.2 h_4))) ?_
      refine K.RW.qs [.bool true] (by kernel_rfl) ?_
      refine K.RW.nil ?_
      refine K.thn_normal ?_
      refine K.KW.ifT rfl ?_
      refine K.KW.seq ?_
      -- 5 :32
      refine K.KW.region ?_
      refine K.RW.qs [.int .i64 op] (by kernel_rfl) ?_
      by_cases h_5 : (op : Int) = (6 : Int)
      ·  -- yes
        refine K.RW.q rfl rfl (K.QR.nice (v := .bool ((op : Int) == (6 : Int))) (by kernel_rfl) (congrArg Value.bool (beq_iff_eq.2 h_5))) ?_
        refine K.RW.qs [.bool true] (by kernel_rfl) ?_
        refine K.RW.skip rfl (by kernel_rfl) ?_
        refine K.RW.skip rfl (by kernel_rfl) ?_
        refine K.RW.qs [.bool true, .bool true] (by kernel_rfl) ?_
        refine K.RW.nil ?_
        refine K.thn_normal ?_
        refine K.KW.ret ?_
        refine K.blk_ret ?_
        refine K.thn_ret ?_
        refine ⟨.inr rfl, rfl, (.bool true), K.res1 rfl rfl, [], ?_, hS.pick [0]⟩
        exact ⟨rfl, .inl ⟨by unfold valdK; omega, rfl⟩⟩
      ·  -- no
        refine K.RW.q rfl rfl (K.QR.nice (v := .bool ((op : Int) == (6 : Int))) (by kernel_rfl) (congrArg Value.bool (beq_eq_false_iff_ne.2 h_5))) ?_
        refine K.RW.qs [.bool false, .int .i64 op] (by kernel_rfl) ?_
        by_cases h_6 : (op : Int) = (7 : Int)
        ·  -- yes
          refine K.RW.q rfl (by kernel_rfl) (K.QR.nice (v := .bool ((op : Int) == (7 : Int))) (by kernel_rfl) (congrArg Value.bool (beq_iff_eq.2 h_6))) ?_
          refine K.RW.qs [.bool true, .bool true] (by kernel_rfl) ?_
          refine K.RW.nil ?_
          refine K.thn_normal ?_
          refine K.KW.ret ?_
          refine K.blk_ret ?_
          refine K.thn_ret ?_
          refine ⟨.inr rfl, rfl, (.bool true), K.res1 rfl rfl, [], ?_, hS.pick [0]⟩
          exact ⟨rfl, .inl ⟨by unfold valdK; omega, rfl⟩⟩
        ·  -- no
          refine K.RW.q rfl (by kernel_rfl) (K.QR.nice (v := .bool ((op : Int) == (7 : Int))) (by kernel_rfl) (congrArg Value.bool (beq_eq_false_iff_ne.2 h_6))) ?_
          refine K.RW.qs [.bool false, .bool false] (by kernel_rfl) ?_
          refine K.RW.nil ?_
          refine K.thn_normal ?_
          refine K.KW.ret ?_
          refine K.blk_ret ?_
          refine K.thn_ret ?_
          refine ⟨.inr rfl, rfl, (.bool false), K.res1 rfl rfl, [], ?_, hS.pick [0]⟩
          exact ⟨rfl, .inr ⟨fun hh => by unfold valdK at hh; omega, rfl⟩⟩
    ·  -- no
      refine K.RW.q rfl rfl (K.QR.nice (v := .bool ((kind : Int) == (3 : Int))) (by kernel_rfl) (congrArg Value.bool (beq_eq_false_iff_ne.2 h_4))) ?_
      refine K.RW.qs [.bool false] (by kernel_rfl) ?_
      refine K.RW.nil ?_
      refine K.thn_normal ?_
      refine K.KW.ifF rfl ?_
      refine K.KW.skip ?_
      refine K.blk_normal ?_
      refine K.thn_normal ?_
      refine K.KW.seq ?_
      -- 6 :34
      refine K.KW.region ?_
      refine K.RW.qs [.bool false] (by kernel_rfl) ?_
      refine K.RW.nil ?_
      refine K.thn_normal ?_
      refine K.KW.ret ?_
      refine ⟨.inr rfl, rfl, (.bool false), K.res1 rfl rfl, [], ?_, hS.pick [0]⟩
      exact ⟨rfl, .inr ⟨fun hh => by unfold valdK at hh; omega, rfl⟩⟩
set_option maxHeartbeats 1000000 in
set_option maxRecDepth 100000 in
theorem broken_ok (w0 : World) (c : CallM) :
    K.GC Try.prog w0 67 #[.agg #[.int .i64 c.th, .int .i64 c.ok, .int .u32 c.key, .int .u32 c.val, .int .i64 c.rk, .int .u32 c.rv, .int .i64 c.beg, .int .i64 c.en, .int .i64 c.wh, .bool c.cr, .bool c.kp]] [] (fun v post => post = [] ∧ ((brokenH c ∧ v = .bool true) ∨ (¬ (brokenH c) ∧ v = .bool false))) := by
  refine K.GC.mk (n := 32) Try.func67 rfl rfl [.agg #[.int .i64 c.th, .int .i64 c.ok, .int .u32 c.key, .int .u32 c.val, .int .i64 c.rk, .int .u32 c.rv, .int .i64 c.beg, .int .i64 c.en, .int .i64 c.wh, .bool c.cr, .bool c.kp]] rfl rfl ?_
  intro fr w hS
  replace hS : K.Sat w0 [fr] w := hS
  refine K.KW.seq ?_
  -- 0 :44
  refine K.KW.region ?_
  refine K.RW.l rfl (K.OW.gnew 51 [.int .i64 c.th, .int .i64 c.ok, .int .u32 c.key, .int .u32 c.val, .int .i64 c.rk, .int .u32 c.rv, .int .i64 c.beg, .int .i64 c.en, .int .i64 c.wh, .bool c.cr, .bool c.kp] hS ?_)
  clear hS; intro w r_1 g_2 hg_3 hS
  refine K.RW.qs [.bool false] (by kernel_rfl) ?_
  refine K.RW.nil ?_
  refine K.thn_normal ?_
  refine K.KW.seq ?_
  refine K.KW.block ?_
  refine K.KW.seq ?_
  -- 1 :46
  refine K.KW.region ?_
  refine K.RW.qs [.pointer (some ⟨r_1, 7, none⟩)] (by kernel_rfl) ?_
  refine K.RW.q rfl rfl (K.QR.ld1 (v := .int .i64 c.en) rfl rfl (by kernel_rfl) ((hS.blk 0 rfl hg_3).cell rfl)) ?_
  by_cases h_4 : (c.en : Int) = ((-1) : Int)
  ·  -- yes
    refine K.RW.q rfl rfl (K.QR.nice (v := .bool ((c.en : Int) != ((-1) : Int))) (by kernel_rfl) (congrArg Value.bool (bne_eq_false_iff_eq.2 h_4))) ?_
    refine K.RW.qs [.bool false, .pointer (some ⟨r_1, 4, none⟩)] (by kernel_rfl) ?_
    refine K.RW.q rfl (by kernel_rfl) (K.QR.ldN [.int .i64 c.rk, .int .u32 c.rv] rfl rfl (by kernel_rfl) (by kernel_rfl) (K.cells (K.cl ((hS.blk 0 rfl hg_3).cell rfl) (K.cl ((hS.blk 0 rfl hg_3).cell rfl) K.cl0)))) ?_
    refine K.RW.q rfl (by kernel_rfl) (K.QR.bd [] [.int .i64 0, .int .u32 0] rfl rfl (by kernel_rfl)) ?_
    by_cases h_5 : (c.rk : Int) = 0 ∧ (c.rv : Int) = 0
    ·  -- yes
      refine K.RW.q rfl (by kernel_rfl) (K.QR.neS (by kernel_rfl) rfl rfl rfl (eqRes_t h_5)) ?_
      refine K.RW.qs [.bool false, .bool false] (by kernel_rfl) ?_
      refine K.RW.nil ?_
      refine K.thn_normal ?_
      refine K.KW.ifF rfl ?_
      refine K.KW.seq ?_
      -- 3 :48
      refine K.KW.region ?_
      refine K.RW.qs [.pointer (some ⟨r_1, 8, none⟩)] (by kernel_rfl) ?_
      refine K.RW.q rfl rfl (K.QR.ld1 (v := .int .i64 c.wh) rfl rfl (by kernel_rfl) ((hS.blk 0 rfl hg_3).cell rfl)) ?_
      by_cases h_6 : (c.wh : Int) = ((-1) : Int)
      ·  -- yes
        refine K.RW.q rfl rfl (K.QR.nice (v := .bool ((c.wh : Int) == ((-1) : Int))) (by kernel_rfl) (congrArg Value.bool (beq_iff_eq.2 h_6))) ?_
        refine K.RW.qs [.bool true] (by kernel_rfl) ?_
        refine K.RW.nil ?_
        refine K.thn_normal ?_
        refine K.KW.ifT rfl ?_
        refine K.KW.seq ?_
        -- 4 :49
        refine K.KW.region ?_
        refine K.RW.qs [.pointer (some ⟨r_1, 10, none⟩)] (by kernel_rfl) ?_
        refine K.RW.q rfl rfl (K.QR.ld1 (v := .bool c.kp) rfl rfl (by kernel_rfl) ((hS.blk 0 rfl hg_3).cell rfl)) ?_
        cases hb_7 : c.kp
        ·
          refine K.RW.qs [.bool true, .bool true] (by kernel_rfl) ?_
          refine K.RW.nil ?_
          refine K.thn_normal ?_
          refine K.KW.ret ?_
          refine K.blk_ret ?_
          refine K.thn_ret ?_
          refine ⟨.inr rfl, rfl, (.bool true), K.res1 rfl rfl, [], ?_, hS.pick [1]⟩
          exact ⟨rfl, .inl ⟨by unfold brokenH; first | omega | simp_all | (simp_all; omega), rfl⟩⟩
        ·
          refine K.RW.qs [.bool false, .bool false] (by kernel_rfl) ?_
          refine K.RW.nil ?_
          refine K.thn_normal ?_
          refine K.KW.ret ?_
          refine K.blk_ret ?_
          refine K.thn_ret ?_
          refine ⟨.inr rfl, rfl, (.bool false), K.res1 rfl rfl, [], ?_, hS.pick [1]⟩
          exact ⟨rfl, .inr ⟨fun hh => by unfold brokenH at hh; first | omega | simp_all | (simp_all; omega), rfl⟩⟩
      ·  -- no
        refine K.RW.q rfl rfl (K.QR.nice (v := .bool ((c.wh : Int) == ((-1) : Int))) (by kernel_rfl) (congrArg Value.bool (beq_eq_false_iff_ne.2 h_6))) ?_
        refine K.RW.qs [.bool false] (by kernel_rfl) ?_
        refine K.RW.nil ?_
        refine K.thn_normal ?_
        refine K.KW.ifF rfl ?_
        refine K.KW.skip ?_
        refine K.blk_normal ?_
        refine K.thn_normal ?_
        refine K.KW.seq ?_
        -- 5 :51
        refine K.KW.region ?_
        refine K.RW.qs [.pointer (some ⟨r_1, 8, none⟩)] (by kernel_rfl) ?_
        refine K.RW.q rfl rfl (K.QR.ld1 (v := .int .i64 c.wh) rfl rfl (by kernel_rfl) ((hS.blk 0 rfl hg_3).cell rfl)) ?_
        refine K.RW.qs [.pointer (some ⟨r_1, 6, none⟩)] (by kernel_rfl) ?_
        refine K.RW.q rfl rfl (K.QR.ld1 (v := .int .i64 c.beg) rfl rfl (by kernel_rfl) ((hS.blk 0 rfl hg_3).cell rfl)) ?_
        by_cases h_8 : (c.wh : Int) > (c.beg : Int)
        ·  -- yes
          refine K.RW.q rfl rfl (K.QR.nice (v := .bool (decide ((c.wh : Int) > (c.beg : Int)))) (by kernel_rfl) (congrArg Value.bool (decide_eq_true h_8))) ?_
          refine K.RW.qs [.bool true, .pointer (some ⟨r_1, 1, none⟩), .pointer (some ⟨r_1, 1, none⟩)] (by kernel_rfl) ?_
          refine K.RW.q rfl (by kernel_rfl) (K.QR.ld1 (v := .int .i64 c.ok) rfl rfl (by kernel_rfl) ((hS.blk 0 rfl hg_3).cell rfl)) ?_
          refine K.RW.l (by kernel_rfl) (K.OW.gcall hS [] [0, 1] [.int .i64 c.ok] (looksG_ok _ c.ok) ?_)
          clear hS; rintro _ _ w ⟨rfl, (⟨h_9, rfl⟩ | ⟨h_10, rfl⟩)⟩ hS
          ·
            replace hS : K.Sat w0 [g_2, fr] w := hS
            refine K.RW.qs [.bool false, .bool false, .bool false] (by kernel_rfl) ?_
            refine K.RW.nil ?_
            refine K.thn_normal ?_
            refine K.KW.ret ?_
            refine ⟨.inr rfl, rfl, (.bool false), K.res1 rfl rfl, [], ?_, hS.pick [1]⟩
            exact ⟨rfl, .inr ⟨fun hh => by unfold brokenH at hh; first | omega | simp_all | (simp_all; omega), rfl⟩⟩
          ·
            replace hS : K.Sat w0 [g_2, fr] w := hS
            refine K.RW.qs [.bool true, .bool true, .bool true] (by kernel_rfl) ?_
            refine K.RW.nil ?_
            refine K.thn_normal ?_
            refine K.KW.ret ?_
            refine ⟨.inr rfl, rfl, (.bool true), K.res1 rfl rfl, [], ?_, hS.pick [1]⟩
            exact ⟨rfl, .inl ⟨by unfold brokenH; first | omega | simp_all | (simp_all; omega), rfl⟩⟩
        ·  -- no
          refine K.RW.q rfl rfl (K.QR.nice (v := .bool (decide ((c.wh : Int) > (c.beg : Int)))) (by kernel_rfl) (congrArg Value.bool (decide_eq_false h_8))) ?_
          refine K.RW.qs [.bool false] (by kernel_rfl) ?_
          refine K.RW.skip rfl (by kernel_rfl) ?_
          refine K.RW.skip rfl (by kernel_rfl) ?_
          refine K.RW.skip rfl (by kernel_rfl) ?_
          refine K.RW.skip rfl (by kernel_rfl) ?_
          refine K.RW.skip rfl (by kernel_rfl) ?_
          refine K.RW.qs [.bool false, .bool false] (by kernel_rfl) ?_
          refine K.RW.nil ?_
          refine K.thn_normal ?_
          refine K.KW.ret ?_
          refine ⟨.inr rfl, rfl, (.bool false), K.res1 rfl rfl, [], ?_, hS.pick [1]⟩
          exact ⟨rfl, .inr ⟨fun hh => by unfold brokenH at hh; first | omega | simp_all | (simp_all; omega), rfl⟩⟩
    ·  -- no
      refine K.RW.q rfl (by kernel_rfl) (K.QR.neS (by kernel_rfl) rfl rfl rfl (eqRes_f h_5)) ?_
      refine K.RW.qs [.bool true, .bool true] (by kernel_rfl) ?_
      refine K.RW.nil ?_
      refine K.thn_normal ?_
      refine K.KW.ifT rfl ?_
      refine K.KW.seq ?_
      -- 2 :47
      refine K.KW.region ?_
      refine K.RW.qs [.bool false] (by kernel_rfl) ?_
      refine K.RW.nil ?_
      refine K.thn_normal ?_
      refine K.KW.ret ?_
      refine K.blk_ret ?_
      refine K.thn_ret ?_
      refine ⟨.inr rfl, rfl, (.bool false), K.res1 rfl rfl, [], ?_, hS.pick [1]⟩
      exact ⟨rfl, .inr ⟨fun hh => by unfold brokenH at hh; first | omega | simp_all | (simp_all; omega), rfl⟩⟩
  ·  -- no
    refine K.RW.q rfl rfl (K.QR.nice (v := .bool ((c.en : Int) != ((-1) : Int))) (by kernel_rfl) (congrArg Value.bool (bne_iff_ne.2 h_4))) ?_
    refine K.RW.qs [.bool true] (by kernel_rfl) ?_
    refine K.RW.skip rfl (by kernel_rfl) ?_
    refine K.RW.skip rfl (by kernel_rfl) ?_
    refine K.RW.skip rfl (by kernel_rfl) ?_
    refine K.RW.skip rfl (by kernel_rfl) ?_
    refine K.RW.qs [.bool true, .bool true] (by kernel_rfl) ?_
    refine K.RW.nil ?_
    refine K.thn_normal ?_
    refine K.KW.ifT rfl ?_
    refine K.KW.seq ?_
    -- 2 :47
    refine K.KW.region ?_
    refine K.RW.qs [.bool false] (by kernel_rfl) ?_
    refine K.RW.nil ?_
    refine K.thn_normal ?_
    refine K.KW.ret ?_
    refine K.blk_ret ?_
    refine K.thn_ret ?_
    refine ⟨.inr rfl, rfl, (.bool false), K.res1 rfl rfl, [], ?_, hS.pick [1]⟩
    exact ⟨rfl, .inr ⟨fun hh => by unfold brokenH at hh; first | omega | simp_all | (simp_all; omega), rfl⟩⟩
set_option maxHeartbeats 1000000 in
set_option maxRecDepth 100000 in
theorem answered_ok (w0 : World) (c : CallM) :
    K.GC Try.prog w0 68 #[.agg #[.int .i64 c.th, .int .i64 c.ok, .int .u32 c.key, .int .u32 c.val, .int .i64 c.rk, .int .u32 c.rv, .int .i64 c.beg, .int .i64 c.en, .int .i64 c.wh, .bool c.cr, .bool c.kp]] [] (fun v post => post = [] ∧ ((answeredH c ∧ v = .bool true) ∨ (¬ (answeredH c) ∧ v = .bool false))) := by
  refine K.GC.mk (n := 44) Try.func68 rfl rfl [.agg #[.int .i64 c.th, .int .i64 c.ok, .int .u32 c.key, .int .u32 c.val, .int .i64 c.rk, .int .u32 c.rv, .int .i64 c.beg, .int .i64 c.en, .int .i64 c.wh, .bool c.cr, .bool c.kp]] rfl rfl ?_
  intro fr w hS
  replace hS : K.Sat w0 [fr] w := hS
  refine K.KW.seq ?_
  -- 0 :38
  refine K.KW.region ?_
  refine K.RW.l rfl (K.OW.gnew 51 [.int .i64 c.th, .int .i64 c.ok, .int .u32 c.key, .int .u32 c.val, .int .i64 c.rk, .int .u32 c.rv, .int .i64 c.beg, .int .i64 c.en, .int .i64 c.wh, .bool c.cr, .bool c.kp] hS ?_)
  clear hS; intro w r_1 g_2 hg_3 hS
  refine K.RW.qs [.bool false] (by kernel_rfl) ?_
  refine K.RW.nil ?_
  refine K.thn_normal ?_
  refine K.KW.seq ?_
  -- 1 :39
  refine K.KW.region ?_
  refine K.RW.qs [.pointer (some ⟨r_1, 4, none⟩)] (by kernel_rfl) ?_
  refine K.RW.q rfl rfl (K.QR.ldN [.int .i64 c.rk, .int .u32 c.rv] rfl rfl (by kernel_rfl) (by kernel_rfl) (K.cells (K.cl ((hS.blk 0 rfl hg_3).cell rfl) (K.cl ((hS.blk 0 rfl hg_3).cell rfl) K.cl0)))) ?_
  refine K.RW.l rfl (K.OW.gnew 49 [.int .i64 0, .int .u32 0] hS ?_)
  clear hS; intro w r_4 g_5 hg_6 hS
  refine K.RW.l rfl (K.OW.gst 0 [.int .i64 c.rk, .int .u32 c.rv] [.int .i64 c.rk, .int .u32 c.rv] hS hg_6 ?_)
  clear hS; intro w g_7 hg_8 hS
  replace hS : K.Sat w0 [g_7, g_2, fr] w := hS
  refine K.RW.nil ?_
  refine K.thn_normal ?_
  refine K.KW.seq ?_
  -- 2 :40
  refine K.KW.region ?_
  refine K.RW.qs [.pointer (some ⟨r_1, 10, none⟩)] (by kernel_rfl) ?_
  refine K.RW.q rfl rfl (K.QR.ld1 (v := .bool c.kp) rfl rfl (by kernel_rfl) ((hS.blk 1 rfl hg_3).cell rfl)) ?_
  cases hb_9 : c.kp
  ·
    refine K.RW.qs [.bool true, .bool true, .pointer (some ⟨r_1, 6, none⟩)] (by kernel_rfl) ?_
    refine K.RW.q rfl (by kernel_rfl) (K.QR.ld1 (v := .int .i64 c.beg) rfl rfl (by kernel_rfl) ((hS.blk 1 rfl hg_3).cell rfl)) ?_
    refine K.RW.qs [.pointer (some ⟨r_1, 8, none⟩)] (by kernel_rfl) ?_
    refine K.RW.q rfl (by kernel_rfl) (K.QR.ld1 (v := .int .i64 c.wh) rfl rfl (by kernel_rfl) ((hS.blk 1 rfl hg_3).cell rfl)) ?_
    by_cases h_10 : (c.beg : Int) < (c.wh : Int)
    ·  -- yes
      refine K.RW.q rfl (by kernel_rfl) (K.QR.nice (v := .bool (decide ((c.beg : Int) < (c.wh : Int)))) (by kernel_rfl) (congrArg Value.bool (decide_eq_true h_10))) ?_
      refine K.RW.qs [.bool true, .bool true, .pointer (some ⟨r_1, 8, none⟩)] (by kernel_rfl) ?_
      refine K.RW.q rfl (by kernel_rfl) (K.QR.ld1 (v := .int .i64 c.wh) rfl rfl (by kernel_rfl) ((hS.blk 1 rfl hg_3).cell rfl)) ?_
      refine K.RW.qs [.pointer (some ⟨r_1, 7, none⟩)] (by kernel_rfl) ?_
      refine K.RW.q rfl (by kernel_rfl) (K.QR.ld1 (v := .int .i64 c.en) rfl rfl (by kernel_rfl) ((hS.blk 1 rfl hg_3).cell rfl)) ?_
      by_cases h_11 : (c.wh : Int) ≤ (c.en : Int)
      ·  -- yes
        refine K.RW.q rfl (by kernel_rfl) (K.QR.nice (v := .bool (decide ((c.wh : Int) ≤ (c.en : Int)))) (by kernel_rfl) (congrArg Value.bool (decide_eq_true h_11))) ?_
        refine K.RW.qs [.bool true, .bool true, .pointer (some ⟨r_1, 1, none⟩), .pointer (some ⟨r_1, 1, none⟩)] (by kernel_rfl) ?_
        refine K.RW.q rfl (by kernel_rfl) (K.QR.ld1 (v := .int .i64 c.ok) rfl rfl (by kernel_rfl) ((hS.blk 1 rfl hg_3).cell rfl)) ?_
        refine K.RW.qs [.pointer (some ⟨r_4, 0, none⟩)] (by kernel_rfl) ?_
        refine K.RW.q rfl (by kernel_rfl) (K.QR.ld1 (v := .int .i64 c.rk) rfl rfl (by kernel_rfl) ((hS.blk 0 rfl hg_8).cell rfl)) ?_
        refine K.RW.l (by kernel_rfl) (K.OW.gcall hS [] [0, 1, 2] [.int .i64 c.ok, .int .i64 c.rk] (can_ok _ c.ok c.rk) ?_)
        clear hS; rintro _ _ w ⟨rfl, (⟨h_12, rfl⟩ | ⟨h_13, rfl⟩)⟩ hS
        ·
          replace hS : K.Sat w0 [g_7, g_2, fr] w := hS
          refine K.RW.qs [.bool true, .bool true, .pointer (some ⟨r_4, 1, none⟩)] (by kernel_rfl) ?_
          refine K.RW.q rfl (by kernel_rfl) (K.QR.ld1 (v := .int .u32 c.rv) rfl rfl (by kernel_rfl) ((hS.blk 0 rfl hg_8).cell rfl)) ?_
          by_cases h_14 : (c.rv : Int) = (0 : Int)
          ·  -- yes
            refine K.RW.q rfl (by kernel_rfl) (K.QR.nice (v := .bool ((c.rv : Int) == (0 : Int))) (by kernel_rfl) (congrArg Value.bool (beq_iff_eq.2 h_14))) ?_
            refine K.RW.qs [.bool true] (by kernel_rfl) ?_
            refine K.RW.skip rfl (by kernel_rfl) ?_
            refine K.RW.skip rfl (by kernel_rfl) ?_
            refine K.RW.skip rfl (by kernel_rfl) ?_
            refine K.RW.skip rfl (by kernel_rfl) ?_
            refine K.RW.skip rfl (by kernel_rfl) ?_
            refine K.RW.skip rfl (by kernel_rfl) ?_
            refine K.RW.qs [.bool true, .bool true, .bool true] (by kernel_rfl) ?_
            refine K.RW.nil ?_
            refine K.thn_normal ?_
            refine K.KW.ret ?_
            refine ⟨.inr rfl, rfl, (.bool true), K.res1 rfl rfl, [], ?_, hS.pick [2]⟩
            exact ⟨rfl, .inl ⟨by unfold answeredH; first | omega | simp_all | (simp_all; omega), rfl⟩⟩
          ·  -- no
            refine K.RW.q rfl (by kernel_rfl) (K.QR.nice (v := .bool ((c.rv : Int) == (0 : Int))) (by kernel_rfl) (congrArg Value.bool (beq_eq_false_iff_ne.2 h_14))) ?_
            refine K.RW.qs [.bool false, .pointer (some ⟨r_1, 1, none⟩), .pointer (some ⟨r_1, 1, none⟩)] (by kernel_rfl) ?_
            refine K.RW.q rfl (by kernel_rfl) (K.QR.ld1 (v := .int .i64 c.ok) rfl rfl (by kernel_rfl) ((hS.blk 1 rfl hg_3).cell rfl)) ?_
            refine K.RW.qs [.pointer (some ⟨r_4, 0, none⟩)] (by kernel_rfl) ?_
            refine K.RW.q rfl (by kernel_rfl) (K.QR.ld1 (v := .int .i64 c.rk) rfl rfl (by kernel_rfl) ((hS.blk 0 rfl hg_8).cell rfl)) ?_
            refine K.RW.l (by kernel_rfl) (K.OW.gcall hS [] [0, 1, 2] [.int .i64 c.ok, .int .i64 c.rk] (vald_ok _ c.ok c.rk) ?_)
            clear hS; rintro _ _ w ⟨rfl, (⟨h_15, rfl⟩ | ⟨h_16, rfl⟩)⟩ hS
            ·
              replace hS : K.Sat w0 [g_7, g_2, fr] w := hS
              refine K.RW.qs [.bool true, .bool true, .bool true] (by kernel_rfl) ?_
              refine K.RW.nil ?_
              refine K.thn_normal ?_
              refine K.KW.ret ?_
              refine ⟨.inr rfl, rfl, (.bool true), K.res1 rfl rfl, [], ?_, hS.pick [2]⟩
              exact ⟨rfl, .inl ⟨by unfold answeredH; first | omega | simp_all | (simp_all; omega), rfl⟩⟩
            ·
              replace hS : K.Sat w0 [g_7, g_2, fr] w := hS
              refine K.RW.qs [.bool false, .bool false, .bool false] (by kernel_rfl) ?_
              refine K.RW.nil ?_
              refine K.thn_normal ?_
              refine K.KW.ret ?_
              refine ⟨.inr rfl, rfl, (.bool false), K.res1 rfl rfl, [], ?_, hS.pick [2]⟩
              exact ⟨rfl, .inr ⟨fun hh => by unfold answeredH at hh; first | omega | simp_all | (simp_all; omega), rfl⟩⟩
        ·
          replace hS : K.Sat w0 [g_7, g_2, fr] w := hS
          refine K.RW.qs [.bool false, .bool false] (by kernel_rfl) ?_
          refine K.RW.skip rfl (by kernel_rfl) ?_
          refine K.RW.skip rfl (by kernel_rfl) ?_
          refine K.RW.skip rfl (by kernel_rfl) ?_
          refine K.RW.skip rfl (by kernel_rfl) ?_
          refine K.RW.skip rfl (by kernel_rfl) ?_
          refine K.RW.skip rfl (by kernel_rfl) ?_
          refine K.RW.skip rfl (by kernel_rfl) ?_
          refine K.RW.skip rfl (by kernel_rfl) ?_
          refine K.RW.skip rfl (by kernel_rfl) ?_
          refine K.RW.skip rfl (by kernel_rfl) ?_
          refine K.RW.skip rfl (by kernel_rfl) ?_
          refine K.RW.qs [.bool false, .bool false] (by kernel_rfl) ?_
          refine K.RW.nil ?_
          refine K.thn_normal ?_
          refine K.KW.ret ?_
          refine ⟨.inr rfl, rfl, (.bool false), K.res1 rfl rfl, [], ?_, hS.pick [2]⟩
          exact ⟨rfl, .inr ⟨fun hh => by unfold answeredH at hh; first | omega | simp_all | (simp_all; omega), rfl⟩⟩
      ·  -- no
        refine K.RW.q rfl (by kernel_rfl) (K.QR.nice (v := .bool (decide ((c.wh : Int) ≤ (c.en : Int)))) (by kernel_rfl) (congrArg Value.bool (decide_eq_false h_11))) ?_
        refine K.RW.qs [.bool false, .bool false] (by kernel_rfl) ?_
        refine K.RW.skip rfl (by kernel_rfl) ?_
        refine K.RW.skip rfl (by kernel_rfl) ?_
        refine K.RW.skip rfl (by kernel_rfl) ?_
        refine K.RW.skip rfl (by kernel_rfl) ?_
        refine K.RW.skip rfl (by kernel_rfl) ?_
        refine K.RW.skip rfl (by kernel_rfl) ?_
        refine K.RW.qs [.bool false, .bool false] (by kernel_rfl) ?_
        refine K.RW.skip rfl (by kernel_rfl) ?_
        refine K.RW.skip rfl (by kernel_rfl) ?_
        refine K.RW.skip rfl (by kernel_rfl) ?_
        refine K.RW.skip rfl (by kernel_rfl) ?_
        refine K.RW.skip rfl (by kernel_rfl) ?_
        refine K.RW.skip rfl (by kernel_rfl) ?_
        refine K.RW.skip rfl (by kernel_rfl) ?_
        refine K.RW.skip rfl (by kernel_rfl) ?_
        refine K.RW.skip rfl (by kernel_rfl) ?_
        refine K.RW.skip rfl (by kernel_rfl) ?_
        refine K.RW.skip rfl (by kernel_rfl) ?_
        refine K.RW.qs [.bool false, .bool false] (by kernel_rfl) ?_
        refine K.RW.nil ?_
        refine K.thn_normal ?_
        refine K.KW.ret ?_
        refine ⟨.inr rfl, rfl, (.bool false), K.res1 rfl rfl, [], ?_, hS.pick [2]⟩
        exact ⟨rfl, .inr ⟨fun hh => by unfold answeredH at hh; first | omega | simp_all | (simp_all; omega), rfl⟩⟩
    ·  -- no
      refine K.RW.q rfl (by kernel_rfl) (K.QR.nice (v := .bool (decide ((c.beg : Int) < (c.wh : Int)))) (by kernel_rfl) (congrArg Value.bool (decide_eq_false h_10))) ?_
      refine K.RW.qs [.bool false, .bool false] (by kernel_rfl) ?_
      refine K.RW.skip rfl (by kernel_rfl) ?_
      refine K.RW.skip rfl (by kernel_rfl) ?_
      refine K.RW.skip rfl (by kernel_rfl) ?_
      refine K.RW.skip rfl (by kernel_rfl) ?_
      refine K.RW.skip rfl (by kernel_rfl) ?_
      refine K.RW.qs [.bool false, .bool false] (by kernel_rfl) ?_
      refine K.RW.skip rfl (by kernel_rfl) ?_
      refine K.RW.skip rfl (by kernel_rfl) ?_
      refine K.RW.skip rfl (by kernel_rfl) ?_
      refine K.RW.skip rfl (by kernel_rfl) ?_
      refine K.RW.skip rfl (by kernel_rfl) ?_
      refine K.RW.skip rfl (by kernel_rfl) ?_
      refine K.RW.qs [.bool false, .bool false] (by kernel_rfl) ?_
      refine K.RW.skip rfl (by kernel_rfl) ?_
      refine K.RW.skip rfl (by kernel_rfl) ?_
      refine K.RW.skip rfl (by kernel_rfl) ?_
      refine K.RW.skip rfl (by kernel_rfl) ?_
      refine K.RW.skip rfl (by kernel_rfl) ?_
      refine K.RW.skip rfl (by kernel_rfl) ?_
      refine K.RW.skip rfl (by kernel_rfl) ?_
      refine K.RW.skip rfl (by kernel_rfl) ?_
      refine K.RW.skip rfl (by kernel_rfl) ?_
      refine K.RW.skip rfl (by kernel_rfl) ?_
      refine K.RW.skip rfl (by kernel_rfl) ?_
      refine K.RW.qs [.bool false, .bool false] (by kernel_rfl) ?_
      refine K.RW.nil ?_
      refine K.thn_normal ?_
      refine K.KW.ret ?_
      refine ⟨.inr rfl, rfl, (.bool false), K.res1 rfl rfl, [], ?_, hS.pick [2]⟩
      exact ⟨rfl, .inr ⟨fun hh => by unfold answeredH at hh; first | omega | simp_all | (simp_all; omega), rfl⟩⟩
  ·
    refine K.RW.qs [.bool false, .bool false] (by kernel_rfl) ?_
    refine K.RW.skip rfl (by kernel_rfl) ?_
    refine K.RW.skip rfl (by kernel_rfl) ?_
    refine K.RW.skip rfl (by kernel_rfl) ?_
    refine K.RW.skip rfl (by kernel_rfl) ?_
    refine K.RW.skip rfl (by kernel_rfl) ?_
    refine K.RW.qs [.bool false, .bool false] (by kernel_rfl) ?_
    refine K.RW.skip rfl (by kernel_rfl) ?_
    refine K.RW.skip rfl (by kernel_rfl) ?_
    refine K.RW.skip rfl (by kernel_rfl) ?_
    refine K.RW.skip rfl (by kernel_rfl) ?_
    refine K.RW.skip rfl (by kernel_rfl) ?_
    refine K.RW.qs [.bool false, .bool false] (by kernel_rfl) ?_
    refine K.RW.skip rfl (by kernel_rfl) ?_
    refine K.RW.skip rfl (by kernel_rfl) ?_
    refine K.RW.skip rfl (by kernel_rfl) ?_
    refine K.RW.skip rfl (by kernel_rfl) ?_
    refine K.RW.skip rfl (by kernel_rfl) ?_
    refine K.RW.skip rfl (by kernel_rfl) ?_
    refine K.RW.qs [.bool false, .bool false] (by kernel_rfl) ?_
    refine K.RW.skip rfl (by kernel_rfl) ?_
    refine K.RW.skip rfl (by kernel_rfl) ?_
    refine K.RW.skip rfl (by kernel_rfl) ?_
    refine K.RW.skip rfl (by kernel_rfl) ?_
    refine K.RW.skip rfl (by kernel_rfl) ?_
    refine K.RW.skip rfl (by kernel_rfl) ?_
    refine K.RW.skip rfl (by kernel_rfl) ?_
    refine K.RW.skip rfl (by kernel_rfl) ?_
    refine K.RW.skip rfl (by kernel_rfl) ?_
    refine K.RW.skip rfl (by kernel_rfl) ?_
    refine K.RW.skip rfl (by kernel_rfl) ?_
    refine K.RW.qs [.bool false, .bool false] (by kernel_rfl) ?_
    refine K.RW.nil ?_
    refine K.thn_normal ?_
    refine K.KW.ret ?_
    refine ⟨.inr rfl, rfl, (.bool false), K.res1 rfl rfl, [], ?_, hS.pick [2]⟩
    exact ⟨rfl, .inr ⟨fun hh => by unfold answeredH at hh; first | omega | simp_all | (simp_all; omega), rfl⟩⟩
set_option maxHeartbeats 1000000 in
set_option maxRecDepth 100000 in
theorem hmay_ok (w0 : World) (c : CallM) :
    K.GC Try.prog w0 58 #[.agg #[.int .i64 c.th, .int .i64 c.ok, .int .u32 c.key, .int .u32 c.val, .int .i64 c.rk, .int .u32 c.rv, .int .i64 c.beg, .int .i64 c.en, .int .i64 c.wh, .bool c.cr, .bool c.kp]] [] (fun v post => post = [] ∧ ((mayH c ∧ v = .bool true) ∨ (¬ (mayH c) ∧ v = .bool false))) := by
  refine K.GC.mk (n := 19) Try.func58 rfl rfl [.agg #[.int .i64 c.th, .int .i64 c.ok, .int .u32 c.key, .int .u32 c.val, .int .i64 c.rk, .int .u32 c.rv, .int .i64 c.beg, .int .i64 c.en, .int .i64 c.wh, .bool c.cr, .bool c.kp]] rfl rfl ?_
  intro fr w hS
  replace hS : K.Sat w0 [fr] w := hS
  refine K.KW.seq ?_
  -- 0 :55
  refine K.KW.region ?_
  refine K.RW.l rfl (K.OW.gnew 51 [.int .i64 c.th, .int .i64 c.ok, .int .u32 c.key, .int .u32 c.val, .int .i64 c.rk, .int .u32 c.rv, .int .i64 c.beg, .int .i64 c.en, .int .i64 c.wh, .bool c.cr, .bool c.kp] hS ?_)
  clear hS; intro w r_1 g_2 hg_3 hS
  refine K.RW.qs [.bool false] (by kernel_rfl) ?_
  refine K.RW.nil ?_
  refine K.thn_normal ?_
  refine K.KW.seq ?_
  refine K.KW.seq ?_
  -- 1 :56
  refine K.KW.region ?_
  refine K.RW.qs [.pointer (some ⟨r_1, 1, none⟩), .pointer (some ⟨r_1, 1, none⟩)] (by kernel_rfl) ?_
  refine K.RW.q rfl rfl (K.QR.ld1 (v := .int .i64 c.ok) rfl rfl (by kernel_rfl) ((hS.blk 0 rfl hg_3).cell rfl)) ?_
  refine K.RW.l rfl (K.OW.gcall hS [] [0, 1] [.int .i64 c.ok] (kindG_ok _ c.ok) ?_)
  clear hS; rintro _ _ w ⟨rfl, (⟨h_4, rfl⟩ | ⟨h_5, rfl⟩)⟩ hS
  ·
    replace hS : K.Sat w0 [g_2, fr] w := hS
    refine K.RW.qs [.bool false, .bool false, .pointer (some ⟨r_1, 6, none⟩)] (by kernel_rfl) ?_
    refine K.RW.q rfl (by kernel_rfl) (K.QR.ld1 (v := .int .i64 c.beg) rfl rfl (by kernel_rfl) ((hS.blk 0 rfl hg_3).cell rfl)) ?_
    by_cases h_6 : (c.beg : Int) < (0 : Int)
    ·  -- yes
      refine K.RW.q rfl (by kernel_rfl) (K.QR.nice (v := .bool (decide ((c.beg : Int) < (0 : Int)))) (by kernel_rfl) (congrArg Value.bool (decide_eq_true h_6))) ?_
      refine K.RW.qs [.bool true] (by kernel_rfl) ?_
      refine K.RW.nil ?_
      refine K.thn_normal ?_
      refine K.KW.ifT rfl ?_
      refine K.KW.seq ?_
      -- 2 :57
      refine K.KW.region ?_
      refine K.RW.qs [.bool false] (by kernel_rfl) ?_
      refine K.RW.nil ?_
      refine K.thn_normal ?_
      refine K.KW.ret ?_
      refine K.thn_ret ?_
      refine ⟨.inr rfl, rfl, (.bool false), K.res1 rfl rfl, [], ?_, hS.pick [1]⟩
      exact ⟨rfl, .inr ⟨fun hh => by unfold mayH at hh; first | omega | simp_all | (simp_all; omega), rfl⟩⟩
    ·  -- no
      refine K.RW.q rfl (by kernel_rfl) (K.QR.nice (v := .bool (decide ((c.beg : Int) < (0 : Int)))) (by kernel_rfl) (congrArg Value.bool (decide_eq_false h_6))) ?_
      refine K.RW.qs [.bool false] (by kernel_rfl) ?_
      refine K.RW.nil ?_
      refine K.thn_normal ?_
      refine K.KW.ifF rfl ?_
      refine K.KW.skip ?_
      refine K.thn_normal ?_
      refine K.KW.seq ?_
      refine K.KW.seq ?_
      -- 3 :59
      refine K.KW.region ?_
      refine K.RW.qs [.pointer (some ⟨r_1, 9, none⟩)] (by kernel_rfl) ?_
      refine K.RW.q rfl rfl (K.QR.ld1 (v := .bool c.cr) rfl rfl (by kernel_rfl) ((hS.blk 0 rfl hg_3).cell rfl)) ?_
      cases hb_7 : c.cr
      ·
        refine K.RW.nil ?_
        refine K.thn_normal ?_
        refine K.KW.ifF rfl ?_
        refine K.KW.skip ?_
        refine K.thn_normal ?_
        refine K.KW.seq ?_
        -- 5 :62
        refine K.KW.region ?_
        refine K.RW.q rfl rfl (K.QR.ldN [.int .i64 c.th, .int .i64 c.ok, .int .u32 c.key, .int .u32 c.val, .int .i64 c.rk, .int .u32 c.rv, .int .i64 c.beg, .int .i64 c.en, .int .i64 c.wh, .bool c.cr, .bool c.kp] rfl rfl (by kernel_rfl) (by kernel_rfl) (K.cells (K.cl ((hS.blk 0 rfl hg_3).cell rfl) (K.cl ((hS.blk 0 rfl hg_3).cell rfl) (K.cl ((hS.blk 0 rfl hg_3).cell rfl) (K.cl ((hS.blk 0 rfl hg_3).cell rfl) (K.cl ((hS.blk 0 rfl hg_3).cell rfl) (K.cl ((hS.blk 0 rfl hg_3).cell rfl) (K.cl ((hS.blk 0 rfl hg_3).cell rfl) (K.cl ((hS.blk 0 rfl hg_3).cell rfl) (K.cl ((hS.blk 0 rfl hg_3).cell rfl) (K.cl ((hS.blk 0 rfl hg_3).cell rfl) (K.cl ((hS.blk 0 rfl hg_3).cell rfl) K.cl0))))))))))))) ?_
        refine K.RW.l rfl (K.OW.gcall hS [] [0, 1] [.agg #[.int .i64 c.th, .int .i64 c.ok, .int .u32 c.key, .int .u32 c.val, .int .i64 c.rk, .int .u32 c.rv, .int .i64 c.beg, .int .i64 c.en, .int .i64 c.wh, .bool c.cr, .bool c.kp]] (answered_ok _ c) ?_)
        clear hS; rintro _ _ w ⟨rfl, (⟨h_8, rfl⟩ | ⟨h_9, rfl⟩)⟩ hS
        ·
          replace hS : K.Sat w0 [g_2, fr] w := hS
          refine K.RW.qs [.bool true] (by kernel_rfl) ?_
          refine K.RW.nil ?_
          refine K.thn_normal ?_
          refine K.KW.ret ?_
          refine ⟨.inr rfl, rfl, (.bool true), K.res1 rfl rfl, [], ?_, hS.pick [1]⟩
          exact ⟨rfl, .inl ⟨by unfold mayH; first | omega | simp_all | (simp_all; omega), rfl⟩⟩
        ·
          replace hS : K.Sat w0 [g_2, fr] w := hS
          refine K.RW.qs [.bool false] (by kernel_rfl) ?_
          refine K.RW.nil ?_
          refine K.thn_normal ?_
          refine K.KW.ret ?_
          refine ⟨.inr rfl, rfl, (.bool false), K.res1 rfl rfl, [], ?_, hS.pick [1]⟩
          exact ⟨rfl, .inr ⟨fun hh => by unfold mayH at hh; first | omega | simp_all | (simp_all; omega), rfl⟩⟩
      ·
        refine K.RW.nil ?_
        refine K.thn_normal ?_
        refine K.KW.ifT rfl ?_
        refine K.KW.seq ?_
        -- 4 :60
        refine K.KW.region ?_
        refine K.RW.q rfl rfl (K.QR.ldN [.int .i64 c.th, .int .i64 c.ok, .int .u32 c.key, .int .u32 c.val, .int .i64 c.rk, .int .u32 c.rv, .int .i64 c.beg, .int .i64 c.en, .int .i64 c.wh, .bool c.cr, .bool c.kp] rfl rfl (by kernel_rfl) (by kernel_rfl) (K.cells (K.cl ((hS.blk 0 rfl hg_3).cell rfl) (K.cl ((hS.blk 0 rfl hg_3).cell rfl) (K.cl ((hS.blk 0 rfl hg_3).cell rfl) (K.cl ((hS.blk 0 rfl hg_3).cell rfl) (K.cl ((hS.blk 0 rfl hg_3).cell rfl) (K.cl ((hS.blk 0 rfl hg_3).cell rfl) (K.cl ((hS.blk 0 rfl hg_3).cell rfl) (K.cl ((hS.blk 0 rfl hg_3).cell rfl) (K.cl ((hS.blk 0 rfl hg_3).cell rfl) (K.cl ((hS.blk 0 rfl hg_3).cell rfl) (K.cl ((hS.blk 0 rfl hg_3).cell rfl) K.cl0))))))))))))) ?_
        refine K.RW.l rfl (K.OW.gcall hS [] [0, 1] [.agg #[.int .i64 c.th, .int .i64 c.ok, .int .u32 c.key, .int .u32 c.val, .int .i64 c.rk, .int .u32 c.rv, .int .i64 c.beg, .int .i64 c.en, .int .i64 c.wh, .bool c.cr, .bool c.kp]] (broken_ok _ c) ?_)
        clear hS; rintro _ _ w ⟨rfl, (⟨h_10, rfl⟩ | ⟨h_11, rfl⟩)⟩ hS
        ·
          replace hS : K.Sat w0 [g_2, fr] w := hS
          refine K.RW.qs [.bool true] (by kernel_rfl) ?_
          refine K.RW.nil ?_
          refine K.thn_normal ?_
          refine K.KW.ret ?_
          refine K.thn_ret ?_
          refine ⟨.inr rfl, rfl, (.bool true), K.res1 rfl rfl, [], ?_, hS.pick [1]⟩
          exact ⟨rfl, .inl ⟨by unfold mayH; first | omega | simp_all | (simp_all; omega), rfl⟩⟩
        ·
          replace hS : K.Sat w0 [g_2, fr] w := hS
          refine K.RW.qs [.bool false] (by kernel_rfl) ?_
          refine K.RW.nil ?_
          refine K.thn_normal ?_
          refine K.KW.ret ?_
          refine K.thn_ret ?_
          refine ⟨.inr rfl, rfl, (.bool false), K.res1 rfl rfl, [], ?_, hS.pick [1]⟩
          exact ⟨rfl, .inr ⟨fun hh => by unfold mayH at hh; first | omega | simp_all | (simp_all; omega), rfl⟩⟩
  ·
    replace hS : K.Sat w0 [g_2, fr] w := hS
    refine K.RW.qs [.bool true, .bool true] (by kernel_rfl) ?_
    refine K.RW.skip rfl (by kernel_rfl) ?_
    refine K.RW.skip rfl (by kernel_rfl) ?_
    refine K.RW.skip rfl (by kernel_rfl) ?_
    refine K.RW.qs [.bool true] (by kernel_rfl) ?_
    refine K.RW.nil ?_
    refine K.thn_normal ?_
    refine K.KW.ifT rfl ?_
    refine K.KW.seq ?_
    -- 2 :57
    refine K.KW.region ?_
    refine K.RW.qs [.bool false] (by kernel_rfl) ?_
    refine K.RW.nil ?_
    refine K.thn_normal ?_
    refine K.KW.ret ?_
    refine K.thn_ret ?_
    refine ⟨.inr rfl, rfl, (.bool false), K.res1 rfl rfl, [], ?_, hS.pick [1]⟩
    exact ⟨rfl, .inr ⟨fun hh => by unfold mayH at hh; first | omega | simp_all | (simp_all; omega), rfl⟩⟩
set_option maxHeartbeats 1000000 in
set_option maxRecDepth 100000 in
theorem ahead_ok (w0 : World) (a b : CallM) :
    K.GC Try.prog w0 26 #[.agg #[.int .i64 a.th, .int .i64 a.ok, .int .u32 a.key, .int .u32 a.val, .int .i64 a.rk, .int .u32 a.rv, .int .i64 a.beg, .int .i64 a.en, .int .i64 a.wh, .bool a.cr, .bool a.kp], .agg #[.int .i64 b.th, .int .i64 b.ok, .int .u32 b.key, .int .u32 b.val, .int .i64 b.rk, .int .u32 b.rv, .int .i64 b.beg, .int .i64 b.en, .int .i64 b.wh, .bool b.cr, .bool b.kp]] [] (fun v post => post = [] ∧ ((aheadH a b ∧ v = .bool true) ∨ (¬ (aheadH a b) ∧ v = .bool false))) := by
  refine K.GC.mk (n := 15) Try.func26 rfl rfl [.agg #[.int .i64 a.th, .int .i64 a.ok, .int .u32 a.key, .int .u32 a.val, .int .i64 a.rk, .int .u32 a.rv, .int .i64 a.beg, .int .i64 a.en, .int .i64 a.wh, .bool a.cr, .bool a.kp], .agg #[.int .i64 b.th, .int .i64 b.ok, .int .u32 b.key, .int .u32 b.val, .int .i64 b.rk, .int .u32 b.rv, .int .i64 b.beg, .int .i64 b.en, .int .i64 b.wh, .bool b.cr, .bool b.kp]] rfl rfl ?_
  intro fr w hS
  replace hS : K.Sat w0 [fr] w := hS
  refine K.KW.seq ?_
  -- 0 :82
  refine K.KW.region ?_
  refine K.RW.l rfl (K.OW.gnew 51 [.int .i64 a.th, .int .i64 a.ok, .int .u32 a.key, .int .u32 a.val, .int .i64 a.rk, .int .u32 a.rv, .int .i64 a.beg, .int .i64 a.en, .int .i64 a.wh, .bool a.cr, .bool a.kp] hS ?_)
  clear hS; intro w r_1 g_2 hg_3 hS
  refine K.RW.l rfl (K.OW.gnew 51 [.int .i64 b.th, .int .i64 b.ok, .int .u32 b.key, .int .u32 b.val, .int .i64 b.rk, .int .u32 b.rv, .int .i64 b.beg, .int .i64 b.en, .int .i64 b.wh, .bool b.cr, .bool b.kp] hS ?_)
  clear hS; intro w r_4 g_5 hg_6 hS
  refine K.RW.qs [.bool false] (by kernel_rfl) ?_
  refine K.RW.nil ?_
  refine K.thn_normal ?_
  refine K.KW.seq ?_
  -- 1 :82
  refine K.KW.region ?_
  refine K.RW.qs [.pointer (some ⟨r_1, 7, none⟩)] (by kernel_rfl) ?_
  refine K.RW.q rfl rfl (K.QR.ld1 (v := .int .i64 a.en) rfl rfl (by kernel_rfl) ((hS.blk 1 rfl hg_3).cell rfl)) ?_
  by_cases h_7 : (a.en : Int) = ((-1) : Int)
  ·  -- yes
    refine K.RW.q rfl rfl (K.QR.nice (v := .bool ((a.en : Int) != ((-1) : Int))) (by kernel_rfl) (congrArg Value.bool (bne_eq_false_iff_eq.2 h_7))) ?_
    refine K.RW.qs [.bool false] (by kernel_rfl) ?_
    refine K.RW.skip rfl (by kernel_rfl) ?_
    refine K.RW.skip rfl (by kernel_rfl) ?_
    refine K.RW.skip rfl (by kernel_rfl) ?_
    refine K.RW.skip rfl (by kernel_rfl) ?_
    refine K.RW.skip rfl (by kernel_rfl) ?_
    refine K.RW.qs [.bool false, .bool false] (by kernel_rfl) ?_
    refine K.RW.nil ?_
    refine K.thn_normal ?_
    refine K.KW.ret ?_
    refine ⟨.inr rfl, rfl, (.bool false), K.res1 rfl rfl, [], ?_, hS.pick [2]⟩
    exact ⟨rfl, .inr ⟨fun hh => by unfold aheadH at hh; omega, rfl⟩⟩
  ·  -- no
    refine K.RW.q rfl rfl (K.QR.nice (v := .bool ((a.en : Int) != ((-1) : Int))) (by kernel_rfl) (congrArg Value.bool (bne_iff_ne.2 h_7))) ?_
    refine K.RW.qs [.bool true, .pointer (some ⟨r_1, 7, none⟩)] (by kernel_rfl) ?_
    refine K.RW.q rfl (by kernel_rfl) (K.QR.ld1 (v := .int .i64 a.en) rfl rfl (by kernel_rfl) ((hS.blk 1 rfl hg_3).cell rfl)) ?_
    refine K.RW.qs [.pointer (some ⟨r_4, 6, none⟩)] (by kernel_rfl) ?_
    refine K.RW.q rfl (by kernel_rfl) (K.QR.ld1 (v := .int .i64 b.beg) rfl rfl (by kernel_rfl) ((hS.blk 0 rfl hg_6).cell rfl)) ?_
    by_cases h_8 : (a.en : Int) ≤ (b.beg : Int)
    ·  -- yes
      refine K.RW.q rfl (by kernel_rfl) (K.QR.nice (v := .bool (decide ((a.en : Int) ≤ (b.beg : Int)))) (by kernel_rfl) (congrArg Value.bool (decide_eq_true h_8))) ?_
      refine K.RW.qs [.bool true, .bool true] (by kernel_rfl) ?_
      refine K.RW.nil ?_
      refine K.thn_normal ?_
      refine K.KW.ret ?_
      refine ⟨.inr rfl, rfl, (.bool true), K.res1 rfl rfl, [], ?_, hS.pick [2]⟩
      exact ⟨rfl, .inl ⟨by unfold aheadH; omega, rfl⟩⟩
    ·  -- no
      refine K.RW.q rfl (by kernel_rfl) (K.QR.nice (v := .bool (decide ((a.en : Int) ≤ (b.beg : Int)))) (by kernel_rfl) (congrArg Value.bool (decide_eq_false h_8))) ?_
      refine K.RW.qs [.bool false, .bool false] (by kernel_rfl) ?_
      refine K.RW.nil ?_
      refine K.thn_normal ?_
      refine K.KW.ret ?_
      refine ⟨.inr rfl, rfl, (.bool false), K.res1 rfl rfl, [], ?_, hS.pick [2]⟩
      exact ⟨rfl, .inr ⟨fun hh => by unfold aheadH at hh; omega, rfl⟩⟩
set_option maxHeartbeats 1000000 in
set_option maxRecDepth 100000 in
theorem dahead_ok (w0 : World) (a b : CallM) :
    K.GC Try.prog w0 27 #[.agg #[.int .i64 a.th, .int .i64 a.ok, .int .u32 a.key, .int .u32 a.val, .int .i64 a.rk, .int .u32 a.rv, .int .i64 a.beg, .int .i64 a.en, .int .i64 a.wh, .bool a.cr, .bool a.kp], .agg #[.int .i64 b.th, .int .i64 b.ok, .int .u32 b.key, .int .u32 b.val, .int .i64 b.rk, .int .u32 b.rv, .int .i64 b.beg, .int .i64 b.en, .int .i64 b.wh, .bool b.cr, .bool b.kp]] [] (fun v post => post = [] ∧ ((aheadH a b ∧ v = .bool true) ∨ (¬ (aheadH a b) ∧ v = .bool false))) := by
  refine K.GC.mk (n := 15) Try.func27 rfl rfl [.agg #[.int .i64 a.th, .int .i64 a.ok, .int .u32 a.key, .int .u32 a.val, .int .i64 a.rk, .int .u32 a.rv, .int .i64 a.beg, .int .i64 a.en, .int .i64 a.wh, .bool a.cr, .bool a.kp], .agg #[.int .i64 b.th, .int .i64 b.ok, .int .u32 b.key, .int .u32 b.val, .int .i64 b.rk, .int .u32 b.rv, .int .i64 b.beg, .int .i64 b.en, .int .i64 b.wh, .bool b.cr, .bool b.kp]] rfl rfl ?_
  intro fr w hS
  replace hS : K.Sat w0 [fr] w := hS
  refine K.KW.seq ?_
  -- 0 :70
  refine K.KW.region ?_
  refine K.RW.l rfl (K.OW.gnew 51 [.int .i64 a.th, .int .i64 a.ok, .int .u32 a.key, .int .u32 a.val, .int .i64 a.rk, .int .u32 a.rv, .int .i64 a.beg, .int .i64 a.en, .int .i64 a.wh, .bool a.cr, .bool a.kp] hS ?_)
  clear hS; intro w r_1 g_2 hg_3 hS
  refine K.RW.l rfl (K.OW.gnew 51 [.int .i64 b.th, .int .i64 b.ok, .int .u32 b.key, .int .u32 b.val, .int .i64 b.rk, .int .u32 b.rv, .int .i64 b.beg, .int .i64 b.en, .int .i64 b.wh, .bool b.cr, .bool b.kp] hS ?_)
  clear hS; intro w r_4 g_5 hg_6 hS
  refine K.RW.qs [.bool false] (by kernel_rfl) ?_
  refine K.RW.nil ?_
  refine K.thn_normal ?_
  refine K.KW.seq ?_
  -- 1 :70
  refine K.KW.region ?_
  refine K.RW.qs [.pointer (some ⟨r_1, 7, none⟩)] (by kernel_rfl) ?_
  refine K.RW.q rfl rfl (K.QR.ld1 (v := .int .i64 a.en) rfl rfl (by kernel_rfl) ((hS.blk 1 rfl hg_3).cell rfl)) ?_
  by_cases h_7 : (a.en : Int) = ((-1) : Int)
  ·  -- yes
    refine K.RW.q rfl rfl (K.QR.nice (v := .bool ((a.en : Int) != ((-1) : Int))) (by kernel_rfl) (congrArg Value.bool (bne_eq_false_iff_eq.2 h_7))) ?_
    refine K.RW.qs [.bool false] (by kernel_rfl) ?_
    refine K.RW.skip rfl (by kernel_rfl) ?_
    refine K.RW.skip rfl (by kernel_rfl) ?_
    refine K.RW.skip rfl (by kernel_rfl) ?_
    refine K.RW.skip rfl (by kernel_rfl) ?_
    refine K.RW.skip rfl (by kernel_rfl) ?_
    refine K.RW.qs [.bool false, .bool false] (by kernel_rfl) ?_
    refine K.RW.nil ?_
    refine K.thn_normal ?_
    refine K.KW.ret ?_
    refine ⟨.inr rfl, rfl, (.bool false), K.res1 rfl rfl, [], ?_, hS.pick [2]⟩
    exact ⟨rfl, .inr ⟨fun hh => by unfold aheadH at hh; omega, rfl⟩⟩
  ·  -- no
    refine K.RW.q rfl rfl (K.QR.nice (v := .bool ((a.en : Int) != ((-1) : Int))) (by kernel_rfl) (congrArg Value.bool (bne_iff_ne.2 h_7))) ?_
    refine K.RW.qs [.bool true, .pointer (some ⟨r_1, 7, none⟩)] (by kernel_rfl) ?_
    refine K.RW.q rfl (by kernel_rfl) (K.QR.ld1 (v := .int .i64 a.en) rfl rfl (by kernel_rfl) ((hS.blk 1 rfl hg_3).cell rfl)) ?_
    refine K.RW.qs [.pointer (some ⟨r_4, 6, none⟩)] (by kernel_rfl) ?_
    refine K.RW.q rfl (by kernel_rfl) (K.QR.ld1 (v := .int .i64 b.beg) rfl rfl (by kernel_rfl) ((hS.blk 0 rfl hg_6).cell rfl)) ?_
    by_cases h_8 : (a.en : Int) ≤ (b.beg : Int)
    ·  -- yes
      refine K.RW.q rfl (by kernel_rfl) (K.QR.nice (v := .bool (decide ((a.en : Int) ≤ (b.beg : Int)))) (by kernel_rfl) (congrArg Value.bool (decide_eq_true h_8))) ?_
      refine K.RW.qs [.bool true, .bool true] (by kernel_rfl) ?_
      refine K.RW.nil ?_
      refine K.thn_normal ?_
      refine K.KW.ret ?_
      refine ⟨.inr rfl, rfl, (.bool true), K.res1 rfl rfl, [], ?_, hS.pick [2]⟩
      exact ⟨rfl, .inl ⟨by unfold aheadH; omega, rfl⟩⟩
    ·  -- no
      refine K.RW.q rfl (by kernel_rfl) (K.QR.nice (v := .bool (decide ((a.en : Int) ≤ (b.beg : Int)))) (by kernel_rfl) (congrArg Value.bool (decide_eq_false h_8))) ?_
      refine K.RW.qs [.bool false, .bool false] (by kernel_rfl) ?_
      refine K.RW.nil ?_
      refine K.thn_normal ?_
      refine K.KW.ret ?_
      refine ⟨.inr rfl, rfl, (.bool false), K.res1 rfl rfl, [], ?_, hS.pick [2]⟩
      exact ⟨rfl, .inr ⟨fun hh => by unfold aheadH at hh; omega, rfl⟩⟩
end Go.Proofs.Ytnehocjmgnhhhaa
