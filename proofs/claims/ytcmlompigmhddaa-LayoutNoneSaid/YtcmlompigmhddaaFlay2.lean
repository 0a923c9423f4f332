/- Contracts: told, and the lists of the reference of layer 6. -/
import Derived.Test.YtcmlompigmhddaaFlay
namespace Go.Proofs.Ytcmlompigmhddaa
open Go.RowKit
set_option linter.unusedVariables false
attribute [local irreducible] K.KW K.RW K.DW K.OW K.QR K.KC

def fillN (l : List Nm) : List Nm := l ++ List.replicate ((8 - l.length % 8) % 8) nm0
def supT (i : Nat) : List Nm := (List.range i).map fun k => ⟨1, ((k / 8 : Nat) : Int), ((k % 8 : Nat) : Int)⟩
theorem supT_succ (i : Nat) : supT (i + 1) = supT i ++ [⟨1, ((i / 8 : Nat) : Int), ((i % 8 : Nat) : Int)⟩] := by unfold supT; rw [List.range_succ, List.map_append]; rfl
theorem supT_len (i : Nat) : (supT i).length = i := by simp [supT]
def headL : List Nm := fillN (fillN (fillN (supT 16 ++ [⟨2, 0, 0⟩]) ++ [⟨3, 0, 0⟩]) ++ [⟨4, 0, 0⟩])
def bkT : Nat → List Nm
  | 0 => headL
  | j + 1 => bkT j ++ [⟨5, ((j : Nat) : Int), 0⟩]
def thT (c : Cfg) : Nat → List Nm
  | 0 => fillN (bkT c.bu.toNat)
  | t + 1 => fillN ((thT c t ++ [⟨6, ((t : Nat) : Int), 0⟩]) ++ [⟨7, ((t : Nat) : Int), 0⟩])
def lgI (base : List Nm) (t : Nat) : Nat → List Nm
  | 0 => base
  | i + 1 => lgI base t i ++ [⟨8, ((t : Nat) : Int), ((i : Nat) : Int)⟩]
def lgT (c : Cfg) : Nat → List Nm
  | 0 => thT c c.th.toNat
  | t + 1 => fillN (lgI (lgT c t) t c.lo.toNat)
def slI (base : List Nm) (s : Nat) : Nat → List Nm
  | 0 => base
  | k + 1 => slI base s k ++ [⟨((9 + k : Nat) : Int), ((s : Nat) : Int), 0⟩]
def slT (c : Cfg) : Nat → List Nm
  | 0 => lgT c c.th.toNat
  | s + 1 => fillN (slI (slT c s) s 5)
def lasting (c : Cfg) : List Nm := slT c c.sl.toNat
def psT : Nat → List Nm
  | 0 => [⟨14, 0, 0⟩, ⟨15, 0, 0⟩]
  | t + 1 => psT t ++ [⟨16, ((t : Nat) : Int), 0⟩]
def pfT (c : Cfg) : Nat → List Nm
  | 0 => psT c.th.toNat
  | s + 1 => pfT c s ++ [⟨17, ((s : Nat) : Int), 0⟩]
def passing (c : Cfg) : List Nm := pfT c c.sl.toNat
theorem fillN_len (l : List Nm) : (fillN l).length = l.length + (8 - l.length % 8) % 8 := by simp [fillN]
theorem headL_len : headL.length = 40 := by
  unfold headL
  simp only [fillN_len, List.length_append, supT_len, List.length_cons, List.length_nil]
theorem bkT_len : ∀ j, (bkT j).length = 40 + j
  | 0 => headL_len
  | j + 1 => by show (bkT j ++ _).length = _; rw [List.length_append, bkT_len j]; rfl
def isz (x : Int) : Prop := 0 ≤ x
theorem thT_len {c : Cfg} (h : cfgOk c) : ∀ t : Nat, (((thT c t).length : Nat) : Int) = (tFirst c + t) * 8
  | 0 => by
    show (((fillN (bkT c.bu.toNat)).length : Nat) : Int) = _
    rw [fillN_len, bkT_len]; unfold tFirst cfgOk at *; omega
  | t + 1 => by
    show (((fillN ((thT c t ++ _) ++ _)).length : Nat) : Int) = _
    have ih := thT_len h t
    rw [fillN_len]
    simp only [List.length_append, List.length_cons, List.length_nil]
    have := (lay_bd h).1
    omega
theorem lgI_len (base : List Nm) (t : Nat) : ∀ i, (lgI base t i).length = base.length + i
  | 0 => rfl
  | i + 1 => by show (lgI base t i ++ _).length = _; rw [List.length_append, lgI_len base t i]; rfl
theorem lgT_len {c : Cfg} (h : cfgOk c) : ∀ t : Nat, (((lgT c t).length : Nat) : Int) = (lFirst c + lsz c * t) * 8
  | 0 => by
    show (((thT c c.th.toNat).length : Nat) : Int) = _
    rw [thT_len h]; unfold lFirst cfgOk at *; simp; omega
  | t + 1 => by
    show (((fillN (lgI (lgT c t) t c.lo.toNat)).length : Nat) : Int) = _
    have ih := lgT_len h t
    rw [fillN_len, lgI_len]
    have h0 := lay_bd h
    have h1 : 0 ≤ lsz c * t := Int.mul_nonneg (by omega) (by omega)
    have h2 : lsz c * ((t + 1 : Nat) : Int) = lsz c * t + lsz c := by rw [Int.natCast_succ, Int.mul_add, Int.mul_one]
    rw [h2]
    have h3 : lsz c = (c.lo + 7) / 8 := rfl
    unfold cfgOk at h
    omega
theorem slI_len (base : List Nm) (s : Nat) : ∀ i, (slI base s i).length = base.length + i
  | 0 => rfl
  | i + 1 => by show (slI base s i ++ _).length = _; rw [List.length_append, slI_len base s i]; rfl
theorem slT_len {c : Cfg} (h : cfgOk c) : ∀ s : Nat, (((slT c s).length : Nat) : Int) = (sFirst c + s) * 8
  | 0 => by
    show (((lgT c c.th.toNat).length : Nat) : Int) = _
    rw [lgT_len h]
    have h0 := lay_bd h
    have h1 : lsz c * (c.th.toNat : Int) = tl c := by unfold tl; rw [Int.mul_comm]; congr 1; unfold cfgOk at h; omega
    rw [h1]; omega
  | s + 1 => by
    show (((fillN (slI (slT c s) s 5)).length : Nat) : Int) = _
    have ih := slT_len h s
    have h0 := lay_bd h
    rw [fillN_len, slI_len]
    omega
theorem lasting_len {c : Cfg} (h : cfgOk c) : (((lasting c).length : Nat) : Int) = lns c * 8 := by
  unfold lasting; rw [slT_len h]
  have := (lay_bd h).2.2.2.2.2.1
  unfold cfgOk at h; omega
theorem psT_len : ∀ t, (psT t).length = 2 + t
  | 0 => rfl
  | t + 1 => by show (psT t ++ _).length = _; rw [List.length_append, psT_len t]; rfl
theorem pfT_len (c : Cfg) : ∀ s, (pfT c s).length = 2 + c.th.toNat + s
  | 0 => psT_len _
  | s + 1 => by show (pfT c s ++ _).length = _; rw [List.length_append, pfT_len c s]; rfl
theorem passing_len {c : Cfg} (h : cfgOk c) : (((passing c).length : Nat) : Int) = 2 + c.th + c.sl := by unfold passing; rw [pfT_len]; unfold cfgOk at h; omega
theorem fill_done {xs ys : List Nm} {m : Nat} (h : ys = xs ++ List.replicate (m - xs.length) nm0) (hm : m = xs.length + (8 - xs.length % 8) % 8) : ys = fillN xs := by
  subst hm; unfold fillN; rw [h]; congr 2; omega
theorem fill_step {xs ys : List Nm} {m : Nat} (h : ys = xs ++ List.replicate (m - xs.length) nm0) (hm : xs.length ≤ m) : ys ++ [nm0] = xs ++ List.replicate (m + 1 - xs.length) nm0 := by
  rw [h, List.append_assoc, show m + 1 - xs.length = m - xs.length + 1 by omega, List.replicate_succ']

set_option maxHeartbeats 1000000 in
set_option maxRecDepth 100000 in
theorem told_ok (b : Nat) (c : Cfg) (n : Nm) (w0 : World) (hc : cfgOk c) (hb : LayB w0 b c) :
    K.KC Try.prog 44 #[.pointer (some ⟨b, 0, none⟩), .agg #[.int .i64 n.k, .int .i64 n.a, .int .i64 n.b]] w0 (fun v w' => v = .int .i64 (toldS c n) ∧ K.Chg K.No w0 w') := by
  have hbd := lay_bd hc
  refine K.KC.mk (n := 93) Try.func44 rfl rfl [.pointer (some ⟨b, 0, none⟩), .agg #[.int .i64 n.k, .int .i64 n.a, .int .i64 n.b]] rfl rfl ?_
  refine K.KW.seq ?_
  -- region 0 law.go:18
  refine K.KW.region ?_
  refine K.RW.l rfl (K.OW.new (t := 81) rfl (fun r => .pointer (some ⟨r, 0, none⟩)) [.int .i64 n.k, .int .i64 n.a, .int .i64 n.b] (by kernel_rfl) ?_) 
  intro w_1 r_2 hr_3 e_4 hs_5 b_6
  have c_7 := e_4
  have z_8 := c_7.size
  refine K.RW.q rfl rfl (K.QR.k (v := .int .i64 0) (by kernel_rfl)) ?_
  refine K.RW.nil ?_
  refine K.thn_normal ?_
  refine K.KW.seq ?_
  refine K.KW.seq ?_
  -- region 1 law.go:19
  refine K.KW.region ?_
  refine K.RW.q rfl rfl (K.QR.k (v := .pointer (some ⟨r_2, 0, none⟩)) (by kernel_rfl)) ?_
  refine K.RW.q rfl rfl (K.QR.ld1 (v := .int .i64 n.k) rfl rfl (by kernel_rfl) (b_6.cell rfl)) ?_
  refine K.RW.nil ?_
  refine K.thn_normal ?_
  refine K.KW.block ?_
  refine K.KW.seq ?_
  -- region 2 law.go:20
  refine K.KW.region ?_
  by_cases h_9 : (n.k : Int) = (2 : Int)
  ·  -- yes
    refine K.RW.q rfl rfl (K.QR.nice (v := .bool ((n.k : Int) == (2 : Int))) (by kernel_rfl) (congrArg Value.bool (beq_iff_eq.2 h_9))) ?_
    refine K.RW.q rfl rfl (K.QR.k (v := .bool true) (by kernel_rfl)) ?_
    refine K.RW.nil ?_
    refine K.thn_normal ?_
    refine K.KW.ifT rfl ?_
    refine K.KW.seq ?_
    -- region 3 law.go:21
    refine K.KW.region ?_
    refine K.RW.q rfl rfl (K.QR.k (v := .pointer (some ⟨b, 0, none⟩)) (by kernel_rfl)) ?_
    refine K.RW.l rfl (K.OW.call rfl [.pointer (some ⟨b, 0, none⟩)] rfl rfl (by kernel_rfl) (lHead _ c  _ (by assumption) (hb.no c_7)) ?_) 
    rintro _ w_11 ⟨rfl, c_10⟩
    have c_12 := c_7.no c_10
    have z_13 := c_12.size
    have f_14 := b_6.no c_10
    refine K.RW.q rfl rfl (K.QR.k (v := .int .i64 (16)) (by kernel_rfl)) ?_
    refine K.RW.nil ?_
    refine K.thn_normal ?_
    refine K.KW.ret ?_
    refine K.blk_ret ?_
    refine K.thn_ret ?_
    refine ⟨.inr rfl, (.int .i64 (16)), K.res1 rfl rfl, ?_⟩
    exact ⟨congrArg (Value.int .i64) (by unfold toldS; rw [if_pos h_9]), c_12⟩
  ·  -- no
    refine K.RW.q rfl rfl (K.QR.nice (v := .bool ((n.k : Int) == (2 : Int))) (by kernel_rfl) (congrArg Value.bool (beq_eq_false_iff_ne.2 h_9))) ?_
    refine K.RW.q rfl rfl (K.QR.k (v := .bool false) (by kernel_rfl)) ?_
    refine K.RW.nil ?_
    refine K.thn_normal ?_
    refine K.KW.ifF rfl ?_
    refine K.KW.seq ?_
    -- region 4 law.go:22
    refine K.KW.region ?_
    by_cases h_15 : (n.k : Int) = (3 : Int)
    ·  -- yes
      refine K.RW.q rfl rfl (K.QR.nice (v := .bool ((n.k : Int) == (3 : Int))) (by kernel_rfl) (congrArg Value.bool (beq_iff_eq.2 h_15))) ?_
      refine K.RW.q rfl rfl (K.QR.k (v := .bool true) (by kernel_rfl)) ?_
      refine K.RW.nil ?_
      refine K.thn_normal ?_
      refine K.KW.ifT rfl ?_
      refine K.KW.seq ?_
      -- region 5 law.go:23
      refine K.KW.region ?_
      refine K.RW.q rfl rfl (K.QR.k (v := .pointer (some ⟨b, 0, none⟩)) (by kernel_rfl)) ?_
      refine K.RW.l rfl (K.OW.call rfl [.pointer (some ⟨b, 0, none⟩)] rfl rfl (by kernel_rfl) (lTail _ c  _ (by assumption) (hb.no c_7)) ?_) 
      rintro _ w_17 ⟨rfl, c_16⟩
      have c_18 := c_7.no c_16
      have z_19 := c_18.size
      have f_20 := b_6.no c_16
      refine K.RW.q rfl rfl (K.QR.k (v := .int .i64 (24)) (by kernel_rfl)) ?_
      refine K.RW.nil ?_
      refine K.thn_normal ?_
      refine K.KW.ret ?_
      refine K.blk_ret ?_
      refine K.thn_ret ?_
      refine ⟨.inr rfl, (.int .i64 (24)), K.res1 rfl rfl, ?_⟩
      exact ⟨congrArg (Value.int .i64) (by unfold toldS; rw [if_neg h_9, if_pos h_15]), c_18⟩
    ·  -- no
      refine K.RW.q rfl rfl (K.QR.nice (v := .bool ((n.k : Int) == (3 : Int))) (by kernel_rfl) (congrArg Value.bool (beq_eq_false_iff_ne.2 h_15))) ?_
      refine K.RW.q rfl rfl (K.QR.k (v := .bool false) (by kernel_rfl)) ?_
      refine K.RW.nil ?_
      refine K.thn_normal ?_
      refine K.KW.ifF rfl ?_
      refine K.KW.seq ?_
      -- region 6 law.go:24
      refine K.KW.region ?_
      by_cases h_21 : (n.k : Int) = (4 : Int)
      ·  -- yes
        refine K.RW.q rfl rfl (K.QR.nice (v := .bool ((n.k : Int) == (4 : Int))) (by kernel_rfl) (congrArg Value.bool (beq_iff_eq.2 h_21))) ?_
        refine K.RW.q rfl rfl (K.QR.k (v := .bool true) (by kernel_rfl)) ?_
        refine K.RW.nil ?_
        refine K.thn_normal ?_
        refine K.KW.ifT rfl ?_
        refine K.KW.seq ?_
        -- region 7 law.go:25
        refine K.KW.region ?_
        refine K.RW.q rfl rfl (K.QR.k (v := .pointer (some ⟨b, 0, none⟩)) (by kernel_rfl)) ?_
        refine K.RW.l rfl (K.OW.call rfl [.pointer (some ⟨b, 0, none⟩)] rfl rfl (by kernel_rfl) (lSet _ c  _ (by assumption) (hb.no c_7)) ?_) 
        rintro _ w_23 ⟨rfl, c_22⟩
        have c_24 := c_7.no c_22
        have z_25 := c_24.size
        have f_26 := b_6.no c_22
        refine K.RW.q rfl rfl (K.QR.k (v := .int .i64 (32)) (by kernel_rfl)) ?_
        refine K.RW.nil ?_
        refine K.thn_normal ?_
        refine K.KW.ret ?_
        refine K.blk_ret ?_
        refine K.thn_ret ?_
        refine ⟨.inr rfl, (.int .i64 (32)), K.res1 rfl rfl, ?_⟩
        exact ⟨congrArg (Value.int .i64) (by unfold toldS; rw [if_neg h_9, if_neg h_15, if_pos h_21]), c_24⟩
      ·  -- no
        refine K.RW.q rfl rfl (K.QR.nice (v := .bool ((n.k : Int) == (4 : Int))) (by kernel_rfl) (congrArg Value.bool (beq_eq_false_iff_ne.2 h_21))) ?_
        refine K.RW.q rfl rfl (K.QR.k (v := .bool false) (by kernel_rfl)) ?_
        refine K.RW.nil ?_
        refine K.thn_normal ?_
        refine K.KW.ifF rfl ?_
        refine K.KW.seq ?_
        -- region 8 law.go:26
        refine K.KW.region ?_
        by_cases h_27 : (n.k : Int) = (5 : Int)
        ·  -- yes
          refine K.RW.q rfl rfl (K.QR.nice (v := .bool ((n.k : Int) == (5 : Int))) (by kernel_rfl) (congrArg Value.bool (beq_iff_eq.2 h_27))) ?_
          refine K.RW.q rfl rfl (K.QR.k (v := .bool true) (by kernel_rfl)) ?_
          refine K.RW.nil ?_
          refine K.thn_normal ?_
          refine K.KW.ifT rfl ?_
          refine K.KW.seq ?_
          -- region 9 law.go:27
          refine K.KW.region ?_
          refine K.RW.q rfl rfl (K.QR.k (v := .pointer (some ⟨b, 0, none⟩)) (by kernel_rfl)) ?_
          refine K.RW.q rfl rfl (K.QR.k (v := .pointer (some ⟨r_2, 1, none⟩)) (by kernel_rfl)) ?_
          refine K.RW.q rfl rfl (K.QR.ld1 (v := .int .i64 n.a) rfl rfl (by kernel_rfl) (b_6.cell rfl)) ?_
          refine K.RW.l rfl (K.OW.call rfl [.pointer (some ⟨b, 0, none⟩), .int .i64 n.a] rfl rfl (by kernel_rfl) (lBucket _ c n.a _ (by assumption) (hb.no c_7)) ?_) 
          rintro _ w_29 ⟨rfl, c_28⟩
          have c_30 := c_7.no c_28
          have z_31 := c_30.size
          have f_32 := b_6.no c_28
          refine K.RW.q rfl rfl (K.QR.k (v := .int .i64 (bucketS c (n.a))) (by kernel_rfl)) ?_
          refine K.RW.nil ?_
          refine K.thn_normal ?_
          refine K.KW.ret ?_
          refine K.blk_ret ?_
          refine K.thn_ret ?_
          refine ⟨.inr rfl, (.int .i64 (bucketS c (n.a))), K.res1 rfl rfl, ?_⟩
          exact ⟨congrArg (Value.int .i64) (by unfold toldS; rw [if_neg h_9, if_neg h_15, if_neg h_21, if_pos h_27]), c_30⟩
        ·  -- no
          refine K.RW.q rfl rfl (K.QR.nice (v := .bool ((n.k : Int) == (5 : Int))) (by kernel_rfl) (congrArg Value.bool (beq_eq_false_iff_ne.2 h_27))) ?_
          refine K.RW.q rfl rfl (K.QR.k (v := .bool false) (by kernel_rfl)) ?_
          refine K.RW.nil ?_
          refine K.thn_normal ?_
          refine K.KW.ifF rfl ?_
          refine K.KW.seq ?_
          -- region 10 law.go:28
          refine K.KW.region ?_
          by_cases h_33 : (n.k : Int) = (6 : Int)
          ·  -- yes
            refine K.RW.q rfl rfl (K.QR.nice (v := .bool ((n.k : Int) == (6 : Int))) (by kernel_rfl) (congrArg Value.bool (beq_iff_eq.2 h_33))) ?_
            refine K.RW.q rfl rfl (K.QR.k (v := .bool true) (by kernel_rfl)) ?_
            refine K.RW.nil ?_
            refine K.thn_normal ?_
            refine K.KW.ifT rfl ?_
            refine K.KW.seq ?_
            -- region 11 law.go:29
            refine K.KW.region ?_
            refine K.RW.q rfl rfl (K.QR.k (v := .pointer (some ⟨b, 0, none⟩)) (by kernel_rfl)) ?_
            refine K.RW.q rfl rfl (K.QR.k (v := .pointer (some ⟨r_2, 1, none⟩)) (by kernel_rfl)) ?_
            refine K.RW.q rfl rfl (K.QR.ld1 (v := .int .i64 n.a) rfl rfl (by kernel_rfl) (b_6.cell rfl)) ?_
            refine K.RW.l rfl (K.OW.call rfl [.pointer (some ⟨b, 0, none⟩), .int .i64 n.a] rfl rfl (by kernel_rfl) (lCell _ c n.a _ (by assumption) (hb.no c_7)) ?_) 
            rintro _ w_35 ⟨rfl, c_34⟩
            have c_36 := c_7.no c_34
            have z_37 := c_36.size
            have f_38 := b_6.no c_34
            refine K.RW.q rfl rfl (K.QR.k (v := .int .i64 (threadS c (n.a) 0)) (by kernel_rfl)) ?_
            refine K.RW.nil ?_
            refine K.thn_normal ?_
            refine K.KW.ret ?_
            refine K.blk_ret ?_
            refine K.thn_ret ?_
            refine ⟨.inr rfl, (.int .i64 (threadS c (n.a) 0)), K.res1 rfl rfl, ?_⟩
            exact ⟨congrArg (Value.int .i64) (by unfold toldS; rw [if_neg h_9, if_neg h_15, if_neg h_21, if_neg h_27, if_pos h_33]), c_36⟩
          ·  -- no
            refine K.RW.q rfl rfl (K.QR.nice (v := .bool ((n.k : Int) == (6 : Int))) (by kernel_rfl) (congrArg Value.bool (beq_eq_false_iff_ne.2 h_33))) ?_
            refine K.RW.q rfl rfl (K.QR.k (v := .bool false) (by kernel_rfl)) ?_
            refine K.RW.nil ?_
            refine K.thn_normal ?_
            refine K.KW.ifF rfl ?_
            refine K.KW.seq ?_
            -- region 12 law.go:30
            refine K.KW.region ?_
            by_cases h_39 : (n.k : Int) = (7 : Int)
            ·  -- yes
              refine K.RW.q rfl rfl (K.QR.nice (v := .bool ((n.k : Int) == (7 : Int))) (by kernel_rfl) (congrArg Value.bool (beq_iff_eq.2 h_39))) ?_
              refine K.RW.q rfl rfl (K.QR.k (v := .bool true) (by kernel_rfl)) ?_
              refine K.RW.nil ?_
              refine K.thn_normal ?_
              refine K.KW.ifT rfl ?_
              refine K.KW.seq ?_
              -- region 13 law.go:31
              refine K.KW.region ?_
              refine K.RW.q rfl rfl (K.QR.k (v := .pointer (some ⟨b, 0, none⟩)) (by kernel_rfl)) ?_
              refine K.RW.q rfl rfl (K.QR.k (v := .pointer (some ⟨r_2, 1, none⟩)) (by kernel_rfl)) ?_
              refine K.RW.q rfl rfl (K.QR.ld1 (v := .int .i64 n.a) rfl rfl (by kernel_rfl) (b_6.cell rfl)) ?_
              refine K.RW.l rfl (K.OW.call rfl [.pointer (some ⟨b, 0, none⟩), .int .i64 n.a] rfl rfl (by kernel_rfl) (lIntent _ c n.a _ (by assumption) (hb.no c_7)) ?_) 
              rintro _ w_41 ⟨rfl, c_40⟩
              have c_42 := c_7.no c_40
              have z_43 := c_42.size
              have f_44 := b_6.no c_40
              refine K.RW.q rfl rfl (K.QR.k (v := .int .i64 (threadS c (n.a) 1)) (by kernel_rfl)) ?_
              refine K.RW.nil ?_
              refine K.thn_normal ?_
              refine K.KW.ret ?_
              refine K.blk_ret ?_
              refine K.thn_ret ?_
              refine ⟨.inr rfl, (.int .i64 (threadS c (n.a) 1)), K.res1 rfl rfl, ?_⟩
              exact ⟨congrArg (Value.int .i64) (by unfold toldS; rw [if_neg h_9, if_neg h_15, if_neg h_21, if_neg h_27, if_neg h_33, if_pos h_39]), c_42⟩
            ·  -- no
              refine K.RW.q rfl rfl (K.QR.nice (v := .bool ((n.k : Int) == (7 : Int))) (by kernel_rfl) (congrArg Value.bool (beq_eq_false_iff_ne.2 h_39))) ?_
              refine K.RW.q rfl rfl (K.QR.k (v := .bool false) (by kernel_rfl)) ?_
              refine K.RW.nil ?_
              refine K.thn_normal ?_
              refine K.KW.ifF rfl ?_
              refine K.KW.seq ?_
              -- region 14 law.go:32
              refine K.KW.region ?_
              by_cases h_45 : (n.k : Int) = (8 : Int)
              ·  -- yes
                refine K.RW.q rfl rfl (K.QR.nice (v := .bool ((n.k : Int) == (8 : Int))) (by kernel_rfl) (congrArg Value.bool (beq_iff_eq.2 h_45))) ?_
                refine K.RW.q rfl rfl (K.QR.k (v := .bool true) (by kernel_rfl)) ?_
                refine K.RW.nil ?_
                refine K.thn_normal ?_
                refine K.KW.ifT rfl ?_
                refine K.KW.seq ?_
                -- region 15 law.go:33
                refine K.KW.region ?_
                refine K.RW.q rfl rfl (K.QR.k (v := .pointer (some ⟨b, 0, none⟩)) (by kernel_rfl)) ?_
                refine K.RW.q rfl rfl (K.QR.k (v := .pointer (some ⟨r_2, 1, none⟩)) (by kernel_rfl)) ?_
                refine K.RW.q rfl rfl (K.QR.ld1 (v := .int .i64 n.a) rfl rfl (by kernel_rfl) (b_6.cell rfl)) ?_
                refine K.RW.q rfl rfl (K.QR.k (v := .pointer (some ⟨r_2, 2, none⟩)) (by kernel_rfl)) ?_
                refine K.RW.q rfl rfl (K.QR.ld1 (v := .int .i64 n.b) rfl rfl (by kernel_rfl) (b_6.cell rfl)) ?_
                refine K.RW.l rfl (K.OW.call rfl [.pointer (some ⟨b, 0, none⟩), .int .i64 n.a, .int .i64 n.b] rfl rfl (by kernel_rfl) (lLog _ c n.a n.b _ (by assumption) (hb.no c_7)) ?_) 
                rintro _ w_47 ⟨rfl, c_46⟩
                have c_48 := c_7.no c_46
                have z_49 := c_48.size
                have f_50 := b_6.no c_46
                refine K.RW.q rfl rfl (K.QR.k (v := .int .i64 (logS c (n.a) (n.b))) (by kernel_rfl)) ?_
                refine K.RW.nil ?_
                refine K.thn_normal ?_
                refine K.KW.ret ?_
                refine K.blk_ret ?_
                refine K.thn_ret ?_
                refine ⟨.inr rfl, (.int .i64 (logS c (n.a) (n.b))), K.res1 rfl rfl, ?_⟩
                exact ⟨congrArg (Value.int .i64) (by unfold toldS; rw [if_neg h_9, if_neg h_15, if_neg h_21, if_neg h_27, if_neg h_33, if_neg h_39, if_pos h_45]), c_48⟩
              ·  -- no
                refine K.RW.q rfl rfl (K.QR.nice (v := .bool ((n.k : Int) == (8 : Int))) (by kernel_rfl) (congrArg Value.bool (beq_eq_false_iff_ne.2 h_45))) ?_
                refine K.RW.q rfl rfl (K.QR.k (v := .bool false) (by kernel_rfl)) ?_
                refine K.RW.nil ?_
                refine K.thn_normal ?_
                refine K.KW.ifF rfl ?_
                refine K.KW.seq ?_
                -- region 16 law.go:34
                refine K.KW.region ?_
                by_cases h_51 : (n.k : Int) = (9 : Int)
                ·  -- yes
                  refine K.RW.q rfl rfl (K.QR.nice (v := .bool ((n.k : Int) == (9 : Int))) (by kernel_rfl) (congrArg Value.bool (beq_iff_eq.2 h_51))) ?_
                  refine K.RW.q rfl rfl (K.QR.k (v := .bool true) (by kernel_rfl)) ?_
                  refine K.RW.nil ?_
                  refine K.thn_normal ?_
                  refine K.KW.ifT rfl ?_
                  refine K.KW.seq ?_
                  -- region 17 law.go:35
                  refine K.KW.region ?_
                  refine K.RW.q rfl rfl (K.QR.k (v := .pointer (some ⟨b, 0, none⟩)) (by kernel_rfl)) ?_
                  refine K.RW.q rfl rfl (K.QR.k (v := .pointer (some ⟨r_2, 1, none⟩)) (by kernel_rfl)) ?_
                  refine K.RW.q rfl rfl (K.QR.ld1 (v := .int .i64 n.a) rfl rfl (by kernel_rfl) (b_6.cell rfl)) ?_
                  refine K.RW.l rfl (K.OW.call rfl [.pointer (some ⟨b, 0, none⟩), .int .i64 n.a] rfl rfl (by kernel_rfl) (lGen _ c n.a _ (by assumption) (hb.no c_7)) ?_) 
                  rintro _ w_53 ⟨rfl, c_52⟩
                  have c_54 := c_7.no c_52
                  have z_55 := c_54.size
                  have f_56 := b_6.no c_52
                  refine K.RW.q rfl rfl (K.QR.k (v := .int .i64 (slotS c (n.a) 0)) (by kernel_rfl)) ?_
                  refine K.RW.nil ?_
                  refine K.thn_normal ?_
                  refine K.KW.ret ?_
                  refine K.blk_ret ?_
                  refine K.thn_ret ?_
                  refine ⟨.inr rfl, (.int .i64 (slotS c (n.a) 0)), K.res1 rfl rfl, ?_⟩
                  exact ⟨congrArg (Value.int .i64) (by unfold toldS; rw [if_neg h_9, if_neg h_15, if_neg h_21, if_neg h_27, if_neg h_33, if_neg h_39, if_neg h_45, if_pos h_51]), c_54⟩
                ·  -- no
                  refine K.RW.q rfl rfl (K.QR.nice (v := .bool ((n.k : Int) == (9 : Int))) (by kernel_rfl) (congrArg Value.bool (beq_eq_false_iff_ne.2 h_51))) ?_
                  refine K.RW.q rfl rfl (K.QR.k (v := .bool false) (by kernel_rfl)) ?_
                  refine K.RW.nil ?_
                  refine K.thn_normal ?_
                  refine K.KW.ifF rfl ?_
                  refine K.KW.seq ?_
                  -- region 18 law.go:36
                  refine K.KW.region ?_
                  by_cases h_57 : (n.k : Int) = (10 : Int)
                  ·  -- yes
                    refine K.RW.q rfl rfl (K.QR.nice (v := .bool ((n.k : Int) == (10 : Int))) (by kernel_rfl) (congrArg Value.bool (beq_iff_eq.2 h_57))) ?_
                    refine K.RW.q rfl rfl (K.QR.k (v := .bool true) (by kernel_rfl)) ?_
                    refine K.RW.nil ?_
                    refine K.thn_normal ?_
                    refine K.KW.ifT rfl ?_
                    refine K.KW.seq ?_
                    -- region 19 law.go:37
                    refine K.KW.region ?_
                    refine K.RW.q rfl rfl (K.QR.k (v := .pointer (some ⟨b, 0, none⟩)) (by kernel_rfl)) ?_
                    refine K.RW.q rfl rfl (K.QR.k (v := .pointer (some ⟨r_2, 1, none⟩)) (by kernel_rfl)) ?_
                    refine K.RW.q rfl rfl (K.QR.ld1 (v := .int .i64 n.a) rfl rfl (by kernel_rfl) (b_6.cell rfl)) ?_
                    refine K.RW.l rfl (K.OW.call rfl [.pointer (some ⟨b, 0, none⟩), .int .i64 n.a] rfl rfl (by kernel_rfl) (lKey _ c n.a _ (by assumption) (hb.no c_7)) ?_) 
                    rintro _ w_59 ⟨rfl, c_58⟩
                    have c_60 := c_7.no c_58
                    have z_61 := c_60.size
                    have f_62 := b_6.no c_58
                    refine K.RW.q rfl rfl (K.QR.k (v := .int .i64 (slotS c (n.a) 1)) (by kernel_rfl)) ?_
                    refine K.RW.nil ?_
                    refine K.thn_normal ?_
                    refine K.KW.ret ?_
                    refine K.blk_ret ?_
                    refine K.thn_ret ?_
                    refine ⟨.inr rfl, (.int .i64 (slotS c (n.a) 1)), K.res1 rfl rfl, ?_⟩
                    exact ⟨congrArg (Value.int .i64) (by unfold toldS; rw [if_neg h_9, if_neg h_15, if_neg h_21, if_neg h_27, if_neg h_33, if_neg h_39, if_neg h_45, if_neg h_51, if_pos h_57]), c_60⟩
                  ·  -- no
                    refine K.RW.q rfl rfl (K.QR.nice (v := .bool ((n.k : Int) == (10 : Int))) (by kernel_rfl) (congrArg Value.bool (beq_eq_false_iff_ne.2 h_57))) ?_
                    refine K.RW.q rfl rfl (K.QR.k (v := .bool false) (by kernel_rfl)) ?_
                    refine K.RW.nil ?_
                    refine K.thn_normal ?_
                    refine K.KW.ifF rfl ?_
                    refine K.KW.seq ?_
                    -- region 20 law.go:38
                    refine K.KW.region ?_
                    by_cases h_63 : (n.k : Int) = (11 : Int)
                    ·  -- yes
                      refine K.RW.q rfl rfl (K.QR.nice (v := .bool ((n.k : Int) == (11 : Int))) (by kernel_rfl) (congrArg Value.bool (beq_iff_eq.2 h_63))) ?_
                      refine K.RW.q rfl rfl (K.QR.k (v := .bool true) (by kernel_rfl)) ?_
                      refine K.RW.nil ?_
                      refine K.thn_normal ?_
                      refine K.KW.ifT rfl ?_
                      refine K.KW.seq ?_
                      -- region 21 law.go:39
                      refine K.KW.region ?_
                      refine K.RW.q rfl rfl (K.QR.k (v := .pointer (some ⟨b, 0, none⟩)) (by kernel_rfl)) ?_
                      refine K.RW.q rfl rfl (K.QR.k (v := .pointer (some ⟨r_2, 1, none⟩)) (by kernel_rfl)) ?_
                      refine K.RW.q rfl rfl (K.QR.ld1 (v := .int .i64 n.a) rfl rfl (by kernel_rfl) (b_6.cell rfl)) ?_
                      refine K.RW.l rfl (K.OW.call rfl [.pointer (some ⟨b, 0, none⟩), .int .i64 n.a] rfl rfl (by kernel_rfl) (lVal _ c n.a _ (by assumption) (hb.no c_7)) ?_) 
                      rintro _ w_65 ⟨rfl, c_64⟩
                      have c_66 := c_7.no c_64
                      have z_67 := c_66.size
                      have f_68 := b_6.no c_64
                      refine K.RW.q rfl rfl (K.QR.k (v := .int .i64 (slotS c (n.a) 2)) (by kernel_rfl)) ?_
                      refine K.RW.nil ?_
                      refine K.thn_normal ?_
                      refine K.KW.ret ?_
                      refine K.blk_ret ?_
                      refine K.thn_ret ?_
                      refine ⟨.inr rfl, (.int .i64 (slotS c (n.a) 2)), K.res1 rfl rfl, ?_⟩
                      exact ⟨congrArg (Value.int .i64) (by unfold toldS; rw [if_neg h_9, if_neg h_15, if_neg h_21, if_neg h_27, if_neg h_33, if_neg h_39, if_neg h_45, if_neg h_51, if_neg h_57, if_pos h_63]), c_66⟩
                    ·  -- no
                      refine K.RW.q rfl rfl (K.QR.nice (v := .bool ((n.k : Int) == (11 : Int))) (by kernel_rfl) (congrArg Value.bool (beq_eq_false_iff_ne.2 h_63))) ?_
                      refine K.RW.q rfl rfl (K.QR.k (v := .bool false) (by kernel_rfl)) ?_
                      refine K.RW.nil ?_
                      refine K.thn_normal ?_
                      refine K.KW.ifF rfl ?_
                      refine K.KW.seq ?_
                      -- region 22 law.go:40
                      refine K.KW.region ?_
                      by_cases h_69 : (n.k : Int) = (12 : Int)
                      ·  -- yes
                        refine K.RW.q rfl rfl (K.QR.nice (v := .bool ((n.k : Int) == (12 : Int))) (by kernel_rfl) (congrArg Value.bool (beq_iff_eq.2 h_69))) ?_
                        refine K.RW.q rfl rfl (K.QR.k (v := .bool true) (by kernel_rfl)) ?_
                        refine K.RW.nil ?_
                        refine K.thn_normal ?_
                        refine K.KW.ifT rfl ?_
                        refine K.KW.seq ?_
                        -- region 23 law.go:41
                        refine K.KW.region ?_
                        refine K.RW.q rfl rfl (K.QR.k (v := .pointer (some ⟨b, 0, none⟩)) (by kernel_rfl)) ?_
                        refine K.RW.q rfl rfl (K.QR.k (v := .pointer (some ⟨r_2, 1, none⟩)) (by kernel_rfl)) ?_
                        refine K.RW.q rfl rfl (K.QR.ld1 (v := .int .i64 n.a) rfl rfl (by kernel_rfl) (b_6.cell rfl)) ?_
                        refine K.RW.l rfl (K.OW.call rfl [.pointer (some ⟨b, 0, none⟩), .int .i64 n.a] rfl rfl (by kernel_rfl) (lNext _ c n.a _ (by assumption) (hb.no c_7)) ?_) 
                        rintro _ w_71 ⟨rfl, c_70⟩
                        have c_72 := c_7.no c_70
                        have z_73 := c_72.size
                        have f_74 := b_6.no c_70
                        refine K.RW.q rfl rfl (K.QR.k (v := .int .i64 (slotS c (n.a) 3)) (by kernel_rfl)) ?_
                        refine K.RW.nil ?_
                        refine K.thn_normal ?_
                        refine K.KW.ret ?_
                        refine K.blk_ret ?_
                        refine K.thn_ret ?_
                        refine ⟨.inr rfl, (.int .i64 (slotS c (n.a) 3)), K.res1 rfl rfl, ?_⟩
                        exact ⟨congrArg (Value.int .i64) (by unfold toldS; rw [if_neg h_9, if_neg h_15, if_neg h_21, if_neg h_27, if_neg h_33, if_neg h_39, if_neg h_45, if_neg h_51, if_neg h_57, if_neg h_63, if_pos h_69]), c_72⟩
                      ·  -- no
                        refine K.RW.q rfl rfl (K.QR.nice (v := .bool ((n.k : Int) == (12 : Int))) (by kernel_rfl) (congrArg Value.bool (beq_eq_false_iff_ne.2 h_69))) ?_
                        refine K.RW.q rfl rfl (K.QR.k (v := .bool false) (by kernel_rfl)) ?_
                        refine K.RW.nil ?_
                        refine K.thn_normal ?_
                        refine K.KW.ifF rfl ?_
                        refine K.KW.seq ?_
                        -- region 24 law.go:42
                        refine K.KW.region ?_
                        by_cases h_75 : (n.k : Int) = (13 : Int)
                        ·  -- yes
                          refine K.RW.q rfl rfl (K.QR.nice (v := .bool ((n.k : Int) == (13 : Int))) (by kernel_rfl) (congrArg Value.bool (beq_iff_eq.2 h_75))) ?_
                          refine K.RW.q rfl rfl (K.QR.k (v := .bool true) (by kernel_rfl)) ?_
                          refine K.RW.nil ?_
                          refine K.thn_normal ?_
                          refine K.KW.ifT rfl ?_
                          refine K.KW.seq ?_
                          -- region 25 law.go:43
                          refine K.KW.region ?_
                          refine K.RW.q rfl rfl (K.QR.k (v := .pointer (some ⟨b, 0, none⟩)) (by kernel_rfl)) ?_
                          refine K.RW.q rfl rfl (K.QR.k (v := .pointer (some ⟨r_2, 1, none⟩)) (by kernel_rfl)) ?_
                          refine K.RW.q rfl rfl (K.QR.ld1 (v := .int .i64 n.a) rfl rfl (by kernel_rfl) (b_6.cell rfl)) ?_
                          refine K.RW.l rfl (K.OW.call rfl [.pointer (some ⟨b, 0, none⟩), .int .i64 n.a] rfl rfl (by kernel_rfl) (lTag _ c n.a _ (by assumption) (hb.no c_7)) ?_) 
                          rintro _ w_77 ⟨rfl, c_76⟩
                          have c_78 := c_7.no c_76
                          have z_79 := c_78.size
                          have f_80 := b_6.no c_76
                          refine K.RW.q rfl rfl (K.QR.k (v := .int .i64 (slotS c (n.a) 4)) (by kernel_rfl)) ?_
                          refine K.RW.nil ?_
                          refine K.thn_normal ?_
                          refine K.KW.ret ?_
                          refine K.blk_ret ?_
                          refine K.thn_ret ?_
                          refine ⟨.inr rfl, (.int .i64 (slotS c (n.a) 4)), K.res1 rfl rfl, ?_⟩
                          exact ⟨congrArg (Value.int .i64) (by unfold toldS; rw [if_neg h_9, if_neg h_15, if_neg h_21, if_neg h_27, if_neg h_33, if_neg h_39, if_neg h_45, if_neg h_51, if_neg h_57, if_neg h_63, if_neg h_69, if_pos h_75]), c_78⟩
                        ·  -- no
                          refine K.RW.q rfl rfl (K.QR.nice (v := .bool ((n.k : Int) == (13 : Int))) (by kernel_rfl) (congrArg Value.bool (beq_eq_false_iff_ne.2 h_75))) ?_
                          refine K.RW.q rfl rfl (K.QR.k (v := .bool false) (by kernel_rfl)) ?_
                          refine K.RW.nil ?_
                          refine K.thn_normal ?_
                          refine K.KW.ifF rfl ?_
                          refine K.KW.seq ?_
                          -- region 26 law.go:44
                          refine K.KW.region ?_
                          by_cases h_81 : (n.k : Int) = (14 : Int)
                          ·  -- yes
                            refine K.RW.q rfl rfl (K.QR.nice (v := .bool ((n.k : Int) == (14 : Int))) (by kernel_rfl) (congrArg Value.bool (beq_iff_eq.2 h_81))) ?_
                            refine K.RW.q rfl rfl (K.QR.k (v := .bool true) (by kernel_rfl)) ?_
                            refine K.RW.nil ?_
                            refine K.thn_normal ?_
                            refine K.KW.ifT rfl ?_
                            refine K.KW.seq ?_
                            -- region 27 law.go:45
                            refine K.KW.region ?_
                            refine K.RW.q rfl rfl (K.QR.k (v := .pointer (some ⟨b, 0, none⟩)) (by kernel_rfl)) ?_
                            refine K.RW.l rfl (K.OW.call rfl [.pointer (some ⟨b, 0, none⟩)] rfl rfl (by kernel_rfl) (lEpoch _ c  _ (by assumption) (hb.no c_7)) ?_) 
                            rintro _ w_83 ⟨rfl, c_82⟩
                            have c_84 := c_7.no c_82
                            have z_85 := c_84.size
                            have f_86 := b_6.no c_82
                            refine K.RW.q rfl rfl (K.QR.k (v := .int .i64 (-1)) (by kernel_rfl)) ?_
                            refine K.RW.nil ?_
                            refine K.thn_normal ?_
                            refine K.KW.ret ?_
                            refine K.blk_ret ?_
                            refine K.thn_ret ?_
                            refine ⟨.inr rfl, (.int .i64 (-1)), K.res1 rfl rfl, ?_⟩
                            exact ⟨congrArg (Value.int .i64) (by unfold toldS; rw [if_neg h_9, if_neg h_15, if_neg h_21, if_neg h_27, if_neg h_33, if_neg h_39, if_neg h_45, if_neg h_51, if_neg h_57, if_neg h_63, if_neg h_69, if_neg h_75, if_pos h_81]), c_84⟩
                          ·  -- no
                            refine K.RW.q rfl rfl (K.QR.nice (v := .bool ((n.k : Int) == (14 : Int))) (by kernel_rfl) (congrArg Value.bool (beq_eq_false_iff_ne.2 h_81))) ?_
                            refine K.RW.q rfl rfl (K.QR.k (v := .bool false) (by kernel_rfl)) ?_
                            refine K.RW.nil ?_
                            refine K.thn_normal ?_
                            refine K.KW.ifF rfl ?_
                            refine K.KW.seq ?_
                            -- region 28 law.go:46
                            refine K.KW.region ?_
                            by_cases h_87 : (n.k : Int) = (15 : Int)
                            ·  -- yes
                              refine K.RW.q rfl rfl (K.QR.nice (v := .bool ((n.k : Int) == (15 : Int))) (by kernel_rfl) (congrArg Value.bool (beq_iff_eq.2 h_87))) ?_
                              refine K.RW.q rfl rfl (K.QR.k (v := .bool true) (by kernel_rfl)) ?_
                              refine K.RW.nil ?_
                              refine K.thn_normal ?_
                              refine K.KW.ifT rfl ?_
                              refine K.KW.seq ?_
                              -- region 29 law.go:47
                              refine K.KW.region ?_
                              refine K.RW.q rfl rfl (K.QR.k (v := .pointer (some ⟨b, 0, none⟩)) (by kernel_rfl)) ?_
                              refine K.RW.l rfl (K.OW.call rfl [.pointer (some ⟨b, 0, none⟩)] rfl rfl (by kernel_rfl) (lFree _ c  _ (by assumption) (hb.no c_7)) ?_) 
                              rintro _ w_89 ⟨rfl, c_88⟩
                              have c_90 := c_7.no c_88
                              have z_91 := c_90.size
                              have f_92 := b_6.no c_88
                              refine K.RW.q rfl rfl (K.QR.k (v := .int .i64 (-2)) (by kernel_rfl)) ?_
                              refine K.RW.nil ?_
                              refine K.thn_normal ?_
                              refine K.KW.ret ?_
                              refine K.blk_ret ?_
                              refine K.thn_ret ?_
                              refine ⟨.inr rfl, (.int .i64 (-2)), K.res1 rfl rfl, ?_⟩
                              exact ⟨congrArg (Value.int .i64) (by unfold toldS; rw [if_neg h_9, if_neg h_15, if_neg h_21, if_neg h_27, if_neg h_33, if_neg h_39, if_neg h_45, if_neg h_51, if_neg h_57, if_neg h_63, if_neg h_69, if_neg h_75, if_neg h_81, if_pos h_87]), c_90⟩
                            ·  -- no
                              refine K.RW.q rfl rfl (K.QR.nice (v := .bool ((n.k : Int) == (15 : Int))) (by kernel_rfl) (congrArg Value.bool (beq_eq_false_iff_ne.2 h_87))) ?_
                              refine K.RW.q rfl rfl (K.QR.k (v := .bool false) (by kernel_rfl)) ?_
                              refine K.RW.nil ?_
                              refine K.thn_normal ?_
                              refine K.KW.ifF rfl ?_
                              refine K.KW.seq ?_
                              -- region 30 law.go:48
                              refine K.KW.region ?_
                              by_cases h_93 : (n.k : Int) = (16 : Int)
                              ·  -- yes
                                refine K.RW.q rfl rfl (K.QR.nice (v := .bool ((n.k : Int) == (16 : Int))) (by kernel_rfl) (congrArg Value.bool (beq_iff_eq.2 h_93))) ?_
                                refine K.RW.q rfl rfl (K.QR.k (v := .bool true) (by kernel_rfl)) ?_
                                refine K.RW.nil ?_
                                refine K.thn_normal ?_
                                refine K.KW.ifT rfl ?_
                                refine K.KW.seq ?_
                                -- region 31 law.go:49
                                refine K.KW.region ?_
                                refine K.RW.q rfl rfl (K.QR.k (v := .pointer (some ⟨b, 0, none⟩)) (by kernel_rfl)) ?_
                                refine K.RW.q rfl rfl (K.QR.k (v := .pointer (some ⟨r_2, 1, none⟩)) (by kernel_rfl)) ?_
                                refine K.RW.q rfl rfl (K.QR.ld1 (v := .int .i64 n.a) rfl rfl (by kernel_rfl) (b_6.cell rfl)) ?_
                                refine K.RW.l rfl (K.OW.call rfl [.pointer (some ⟨b, 0, none⟩), .int .i64 n.a] rfl rfl (by kernel_rfl) (lAnnounce _ c n.a _ (by assumption) (hb.no c_7)) ?_) 
                                rintro _ w_95 ⟨rfl, c_94⟩
                                have c_96 := c_7.no c_94
                                have z_97 := c_96.size
                                have f_98 := b_6.no c_94
                                refine K.RW.q rfl rfl (K.QR.k (v := .int .i64 (annS c (n.a))) (by kernel_rfl)) ?_
                                refine K.RW.nil ?_
                                refine K.thn_normal ?_
                                refine K.KW.ret ?_
                                refine K.blk_ret ?_
                                refine K.thn_ret ?_
                                refine ⟨.inr rfl, (.int .i64 (annS c (n.a))), K.res1 rfl rfl, ?_⟩
                                exact ⟨congrArg (Value.int .i64) (by unfold toldS; rw [if_neg h_9, if_neg h_15, if_neg h_21, if_neg h_27, if_neg h_33, if_neg h_39, if_neg h_45, if_neg h_51, if_neg h_57, if_neg h_63, if_neg h_69, if_neg h_75, if_neg h_81, if_neg h_87, if_pos h_93]), c_96⟩
                              ·  -- no
                                refine K.RW.q rfl rfl (K.QR.nice (v := .bool ((n.k : Int) == (16 : Int))) (by kernel_rfl) (congrArg Value.bool (beq_eq_false_iff_ne.2 h_93))) ?_
                                refine K.RW.q rfl rfl (K.QR.k (v := .bool false) (by kernel_rfl)) ?_
                                refine K.RW.nil ?_
                                refine K.thn_normal ?_
                                refine K.KW.ifF rfl ?_
                                refine K.KW.skip ?_
                                refine K.blk_normal ?_
                                refine K.thn_normal ?_
                                refine K.KW.seq ?_
                                -- region 32 law.go:51
                                refine K.KW.region ?_
                                refine K.RW.q rfl rfl (K.QR.k (v := .pointer (some ⟨b, 0, none⟩)) (by kernel_rfl)) ?_
                                refine K.RW.q rfl rfl (K.QR.k (v := .pointer (some ⟨r_2, 1, none⟩)) (by kernel_rfl)) ?_
                                refine K.RW.q rfl rfl (K.QR.ld1 (v := .int .i64 n.a) rfl rfl (by kernel_rfl) (b_6.cell rfl)) ?_
                                refine K.RW.l rfl (K.OW.call rfl [.pointer (some ⟨b, 0, none⟩), .int .i64 n.a] rfl rfl (by kernel_rfl) (lAfter _ c n.a _ (by assumption) (hb.no c_7)) ?_) 
                                rintro _ w_100 ⟨rfl, c_99⟩
                                have c_101 := c_7.no c_99
                                have z_102 := c_101.size
                                have f_103 := b_6.no c_99
                                refine K.RW.q rfl rfl (K.QR.k (v := .int .i64 (aftS c (n.a))) (by kernel_rfl)) ?_
                                refine K.RW.nil ?_
                                refine K.thn_normal ?_
                                refine K.KW.ret ?_
                                refine ⟨.inr rfl, (.int .i64 (aftS c (n.a))), K.res1 rfl rfl, ?_⟩
                                exact ⟨congrArg (Value.int .i64) (by unfold toldS; rw [if_neg h_9, if_neg h_15, if_neg h_21, if_neg h_27, if_neg h_33, if_neg h_39, if_neg h_45, if_neg h_51, if_neg h_57, if_neg h_63, if_neg h_69, if_neg h_75, if_neg h_81, if_neg h_87, if_neg h_93]), c_101⟩

set_option maxHeartbeats 1000000 in
set_option maxRecDepth 100000 in
theorem told0_ok (n : Nm) (w0 : World) :
    K.KC Try.prog 44 #[.pointer none, .agg #[.int .i64 n.k, .int .i64 n.a, .int .i64 n.b]] w0 (fun v w' => v = .int .i64 0 ∧ K.Chg K.No w0 w') := by
  refine K.KC.mk (n := 93) Try.func44 rfl rfl [.pointer none, .agg #[.int .i64 n.k, .int .i64 n.a, .int .i64 n.b]] rfl rfl ?_
  refine K.KW.seq ?_
  -- region 0 law.go:18
  refine K.KW.region ?_
  refine K.RW.l rfl (K.OW.new (t := 81) rfl (fun r => .pointer (some ⟨r, 0, none⟩)) [.int .i64 n.k, .int .i64 n.a, .int .i64 n.b] (by kernel_rfl) ?_) 
  intro w_1 r_2 hr_3 e_4 hs_5 b_6
  have c_7 := e_4
  have z_8 := c_7.size
  refine K.RW.q rfl rfl (K.QR.k (v := .int .i64 0) (by kernel_rfl)) ?_
  refine K.RW.nil ?_
  refine K.thn_normal ?_
  refine K.KW.seq ?_
  refine K.KW.seq ?_
  -- region 1 law.go:19
  refine K.KW.region ?_
  refine K.RW.q rfl rfl (K.QR.k (v := .pointer (some ⟨r_2, 0, none⟩)) (by kernel_rfl)) ?_
  refine K.RW.q rfl rfl (K.QR.ld1 (v := .int .i64 n.k) rfl rfl (by kernel_rfl) (b_6.cell rfl)) ?_
  refine K.RW.nil ?_
  refine K.thn_normal ?_
  refine K.KW.block ?_
  refine K.KW.seq ?_
  -- region 2 law.go:20
  refine K.KW.region ?_
  by_cases h_9 : (n.k : Int) = (2 : Int)
  ·  -- yes
    refine K.RW.q rfl rfl (K.QR.nice (v := .bool ((n.k : Int) == (2 : Int))) (by kernel_rfl) (congrArg Value.bool (beq_iff_eq.2 h_9))) ?_
    refine K.RW.q rfl rfl (K.QR.k (v := .bool true) (by kernel_rfl)) ?_
    refine K.RW.nil ?_
    refine K.thn_normal ?_
    refine K.KW.ifT rfl ?_
    refine K.KW.seq ?_
    -- region 3 law.go:21
    refine K.KW.region ?_
    refine K.RW.q rfl rfl (K.QR.k (v := .pointer none) (by kernel_rfl)) ?_
    refine K.RW.l rfl (K.OW.call rfl [.pointer none] rfl rfl (by kernel_rfl) (lHead0  _) ?_) 
    rintro _ w_11 ⟨rfl, c_10⟩
    have c_12 := c_7.no c_10
    have z_13 := c_12.size
    have f_14 := b_6.no c_10
    refine K.RW.q rfl rfl (K.QR.k (v := .int .i64 0) (by kernel_rfl)) ?_
    refine K.RW.nil ?_
    refine K.thn_normal ?_
    refine K.KW.ret ?_
    refine K.blk_ret ?_
    refine K.thn_ret ?_
    refine ⟨.inr rfl, (.int .i64 0), K.res1 rfl rfl, ?_⟩
    exact ⟨rfl, c_12⟩
  ·  -- no
    refine K.RW.q rfl rfl (K.QR.nice (v := .bool ((n.k : Int) == (2 : Int))) (by kernel_rfl) (congrArg Value.bool (beq_eq_false_iff_ne.2 h_9))) ?_
    refine K.RW.q rfl rfl (K.QR.k (v := .bool false) (by kernel_rfl)) ?_
    refine K.RW.nil ?_
    refine K.thn_normal ?_
    refine K.KW.ifF rfl ?_
    refine K.KW.seq ?_
    -- region 4 law.go:22
    refine K.KW.region ?_
    by_cases h_15 : (n.k : Int) = (3 : Int)
    ·  -- yes
      refine K.RW.q rfl rfl (K.QR.nice (v := .bool ((n.k : Int) == (3 : Int))) (by kernel_rfl) (congrArg Value.bool (beq_iff_eq.2 h_15))) ?_
      refine K.RW.q rfl rfl (K.QR.k (v := .bool true) (by kernel_rfl)) ?_
      refine K.RW.nil ?_
      refine K.thn_normal ?_
      refine K.KW.ifT rfl ?_
      refine K.KW.seq ?_
      -- region 5 law.go:23
      refine K.KW.region ?_
      refine K.RW.q rfl rfl (K.QR.k (v := .pointer none) (by kernel_rfl)) ?_
      refine K.RW.l rfl (K.OW.call rfl [.pointer none] rfl rfl (by kernel_rfl) (lTail0  _) ?_) 
      rintro _ w_17 ⟨rfl, c_16⟩
      have c_18 := c_7.no c_16
      have z_19 := c_18.size
      have f_20 := b_6.no c_16
      refine K.RW.q rfl rfl (K.QR.k (v := .int .i64 0) (by kernel_rfl)) ?_
      refine K.RW.nil ?_
      refine K.thn_normal ?_
      refine K.KW.ret ?_
      refine K.blk_ret ?_
      refine K.thn_ret ?_
      refine ⟨.inr rfl, (.int .i64 0), K.res1 rfl rfl, ?_⟩
      exact ⟨rfl, c_18⟩
    ·  -- no
      refine K.RW.q rfl rfl (K.QR.nice (v := .bool ((n.k : Int) == (3 : Int))) (by kernel_rfl) (congrArg Value.bool (beq_eq_false_iff_ne.2 h_15))) ?_
      refine K.RW.q rfl rfl (K.QR.k (v := .bool false) (by kernel_rfl)) ?_
      refine K.RW.nil ?_
      refine K.thn_normal ?_
      refine K.KW.ifF rfl ?_
      refine K.KW.seq ?_
      -- region 6 law.go:24
      refine K.KW.region ?_
      by_cases h_21 : (n.k : Int) = (4 : Int)
      ·  -- yes
        refine K.RW.q rfl rfl (K.QR.nice (v := .bool ((n.k : Int) == (4 : Int))) (by kernel_rfl) (congrArg Value.bool (beq_iff_eq.2 h_21))) ?_
        refine K.RW.q rfl rfl (K.QR.k (v := .bool true) (by kernel_rfl)) ?_
        refine K.RW.nil ?_
        refine K.thn_normal ?_
        refine K.KW.ifT rfl ?_
        refine K.KW.seq ?_
        -- region 7 law.go:25
        refine K.KW.region ?_
        refine K.RW.q rfl rfl (K.QR.k (v := .pointer none) (by kernel_rfl)) ?_
        refine K.RW.l rfl (K.OW.call rfl [.pointer none] rfl rfl (by kernel_rfl) (lSet0  _) ?_) 
        rintro _ w_23 ⟨rfl, c_22⟩
        have c_24 := c_7.no c_22
        have z_25 := c_24.size
        have f_26 := b_6.no c_22
        refine K.RW.q rfl rfl (K.QR.k (v := .int .i64 0) (by kernel_rfl)) ?_
        refine K.RW.nil ?_
        refine K.thn_normal ?_
        refine K.KW.ret ?_
        refine K.blk_ret ?_
        refine K.thn_ret ?_
        refine ⟨.inr rfl, (.int .i64 0), K.res1 rfl rfl, ?_⟩
        exact ⟨rfl, c_24⟩
      ·  -- no
        refine K.RW.q rfl rfl (K.QR.nice (v := .bool ((n.k : Int) == (4 : Int))) (by kernel_rfl) (congrArg Value.bool (beq_eq_false_iff_ne.2 h_21))) ?_
        refine K.RW.q rfl rfl (K.QR.k (v := .bool false) (by kernel_rfl)) ?_
        refine K.RW.nil ?_
        refine K.thn_normal ?_
        refine K.KW.ifF rfl ?_
        refine K.KW.seq ?_
        -- region 8 law.go:26
        refine K.KW.region ?_
        by_cases h_27 : (n.k : Int) = (5 : Int)
        ·  -- yes
          refine K.RW.q rfl rfl (K.QR.nice (v := .bool ((n.k : Int) == (5 : Int))) (by kernel_rfl) (congrArg Value.bool (beq_iff_eq.2 h_27))) ?_
          refine K.RW.q rfl rfl (K.QR.k (v := .bool true) (by kernel_rfl)) ?_
          refine K.RW.nil ?_
          refine K.thn_normal ?_
          refine K.KW.ifT rfl ?_
          refine K.KW.seq ?_
          -- region 9 law.go:27
          refine K.KW.region ?_
          refine K.RW.q rfl rfl (K.QR.k (v := .pointer none) (by kernel_rfl)) ?_
          refine K.RW.q rfl rfl (K.QR.k (v := .pointer (some ⟨r_2, 1, none⟩)) (by kernel_rfl)) ?_
          refine K.RW.q rfl rfl (K.QR.ld1 (v := .int .i64 n.a) rfl rfl (by kernel_rfl) (b_6.cell rfl)) ?_
          refine K.RW.l rfl (K.OW.call rfl [.pointer none, .int .i64 n.a] rfl rfl (by kernel_rfl) (lBucket0 n.a _) ?_) 
          rintro _ w_29 ⟨rfl, c_28⟩
          have c_30 := c_7.no c_28
          have z_31 := c_30.size
          have f_32 := b_6.no c_28
          refine K.RW.q rfl rfl (K.QR.k (v := .int .i64 0) (by kernel_rfl)) ?_
          refine K.RW.nil ?_
          refine K.thn_normal ?_
          refine K.KW.ret ?_
          refine K.blk_ret ?_
          refine K.thn_ret ?_
          refine ⟨.inr rfl, (.int .i64 0), K.res1 rfl rfl, ?_⟩
          exact ⟨rfl, c_30⟩
        ·  -- no
          refine K.RW.q rfl rfl (K.QR.nice (v := .bool ((n.k : Int) == (5 : Int))) (by kernel_rfl) (congrArg Value.bool (beq_eq_false_iff_ne.2 h_27))) ?_
          refine K.RW.q rfl rfl (K.QR.k (v := .bool false) (by kernel_rfl)) ?_
          refine K.RW.nil ?_
          refine K.thn_normal ?_
          refine K.KW.ifF rfl ?_
          refine K.KW.seq ?_
          -- region 10 law.go:28
          refine K.KW.region ?_
          by_cases h_33 : (n.k : Int) = (6 : Int)
          ·  -- yes
            refine K.RW.q rfl rfl (K.QR.nice (v := .bool ((n.k : Int) == (6 : Int))) (by kernel_rfl) (congrArg Value.bool (beq_iff_eq.2 h_33))) ?_
            refine K.RW.q rfl rfl (K.QR.k (v := .bool true) (by kernel_rfl)) ?_
            refine K.RW.nil ?_
            refine K.thn_normal ?_
            refine K.KW.ifT rfl ?_
            refine K.KW.seq ?_
            -- region 11 law.go:29
            refine K.KW.region ?_
            refine K.RW.q rfl rfl (K.QR.k (v := .pointer none) (by kernel_rfl)) ?_
            refine K.RW.q rfl rfl (K.QR.k (v := .pointer (some ⟨r_2, 1, none⟩)) (by kernel_rfl)) ?_
            refine K.RW.q rfl rfl (K.QR.ld1 (v := .int .i64 n.a) rfl rfl (by kernel_rfl) (b_6.cell rfl)) ?_
            refine K.RW.l rfl (K.OW.call rfl [.pointer none, .int .i64 n.a] rfl rfl (by kernel_rfl) (lCell0 n.a _) ?_) 
            rintro _ w_35 ⟨rfl, c_34⟩
            have c_36 := c_7.no c_34
            have z_37 := c_36.size
            have f_38 := b_6.no c_34
            refine K.RW.q rfl rfl (K.QR.k (v := .int .i64 0) (by kernel_rfl)) ?_
            refine K.RW.nil ?_
            refine K.thn_normal ?_
            refine K.KW.ret ?_
            refine K.blk_ret ?_
            refine K.thn_ret ?_
            refine ⟨.inr rfl, (.int .i64 0), K.res1 rfl rfl, ?_⟩
            exact ⟨rfl, c_36⟩
          ·  -- no
            refine K.RW.q rfl rfl (K.QR.nice (v := .bool ((n.k : Int) == (6 : Int))) (by kernel_rfl) (congrArg Value.bool (beq_eq_false_iff_ne.2 h_33))) ?_
            refine K.RW.q rfl rfl (K.QR.k (v := .bool false) (by kernel_rfl)) ?_
            refine K.RW.nil ?_
            refine K.thn_normal ?_
            refine K.KW.ifF rfl ?_
            refine K.KW.seq ?_
            -- region 12 law.go:30
            refine K.KW.region ?_
            by_cases h_39 : (n.k : Int) = (7 : Int)
            ·  -- yes
              refine K.RW.q rfl rfl (K.QR.nice (v := .bool ((n.k : Int) == (7 : Int))) (by kernel_rfl) (congrArg Value.bool (beq_iff_eq.2 h_39))) ?_
              refine K.RW.q rfl rfl (K.QR.k (v := .bool true) (by kernel_rfl)) ?_
              refine K.RW.nil ?_
              refine K.thn_normal ?_
              refine K.KW.ifT rfl ?_
              refine K.KW.seq ?_
              -- region 13 law.go:31
              refine K.KW.region ?_
              refine K.RW.q rfl rfl (K.QR.k (v := .pointer none) (by kernel_rfl)) ?_
              refine K.RW.q rfl rfl (K.QR.k (v := .pointer (some ⟨r_2, 1, none⟩)) (by kernel_rfl)) ?_
              refine K.RW.q rfl rfl (K.QR.ld1 (v := .int .i64 n.a) rfl rfl (by kernel_rfl) (b_6.cell rfl)) ?_
              refine K.RW.l rfl (K.OW.call rfl [.pointer none, .int .i64 n.a] rfl rfl (by kernel_rfl) (lIntent0 n.a _) ?_) 
              rintro _ w_41 ⟨rfl, c_40⟩
              have c_42 := c_7.no c_40
              have z_43 := c_42.size
              have f_44 := b_6.no c_40
              refine K.RW.q rfl rfl (K.QR.k (v := .int .i64 0) (by kernel_rfl)) ?_
              refine K.RW.nil ?_
              refine K.thn_normal ?_
              refine K.KW.ret ?_
              refine K.blk_ret ?_
              refine K.thn_ret ?_
              refine ⟨.inr rfl, (.int .i64 0), K.res1 rfl rfl, ?_⟩
              exact ⟨rfl, c_42⟩
            ·  -- no
              refine K.RW.q rfl rfl (K.QR.nice (v := .bool ((n.k : Int) == (7 : Int))) (by kernel_rfl) (congrArg Value.bool (beq_eq_false_iff_ne.2 h_39))) ?_
              refine K.RW.q rfl rfl (K.QR.k (v := .bool false) (by kernel_rfl)) ?_
              refine K.RW.nil ?_
              refine K.thn_normal ?_
              refine K.KW.ifF rfl ?_
              refine K.KW.seq ?_
              -- region 14 law.go:32
              refine K.KW.region ?_
              by_cases h_45 : (n.k : Int) = (8 : Int)
              ·  -- yes
                refine K.RW.q rfl rfl (K.QR.nice (v := .bool ((n.k : Int) == (8 : Int))) (by kernel_rfl) (congrArg Value.bool (beq_iff_eq.2 h_45))) ?_
                refine K.RW.q rfl rfl (K.QR.k (v := .bool true) (by kernel_rfl)) ?_
                refine K.RW.nil ?_
                refine K.thn_normal ?_
                refine K.KW.ifT rfl ?_
                refine K.KW.seq ?_
                -- region 15 law.go:33
                refine K.KW.region ?_
                refine K.RW.q rfl rfl (K.QR.k (v := .pointer none) (by kernel_rfl)) ?_
                refine K.RW.q rfl rfl (K.QR.k (v := .pointer (some ⟨r_2, 1, none⟩)) (by kernel_rfl)) ?_
                refine K.RW.q rfl rfl (K.QR.ld1 (v := .int .i64 n.a) rfl rfl (by kernel_rfl) (b_6.cell rfl)) ?_
                refine K.RW.q rfl rfl (K.QR.k (v := .pointer (some ⟨r_2, 2, none⟩)) (by kernel_rfl)) ?_
                refine K.RW.q rfl rfl (K.QR.ld1 (v := .int .i64 n.b) rfl rfl (by kernel_rfl) (b_6.cell rfl)) ?_
                refine K.RW.l rfl (K.OW.call rfl [.pointer none, .int .i64 n.a, .int .i64 n.b] rfl rfl (by kernel_rfl) (lLog0 n.a n.b _) ?_) 
                rintro _ w_47 ⟨rfl, c_46⟩
                have c_48 := c_7.no c_46
                have z_49 := c_48.size
                have f_50 := b_6.no c_46
                refine K.RW.q rfl rfl (K.QR.k (v := .int .i64 0) (by kernel_rfl)) ?_
                refine K.RW.nil ?_
                refine K.thn_normal ?_
                refine K.KW.ret ?_
                refine K.blk_ret ?_
                refine K.thn_ret ?_
                refine ⟨.inr rfl, (.int .i64 0), K.res1 rfl rfl, ?_⟩
                exact ⟨rfl, c_48⟩
              ·  -- no
                refine K.RW.q rfl rfl (K.QR.nice (v := .bool ((n.k : Int) == (8 : Int))) (by kernel_rfl) (congrArg Value.bool (beq_eq_false_iff_ne.2 h_45))) ?_
                refine K.RW.q rfl rfl (K.QR.k (v := .bool false) (by kernel_rfl)) ?_
                refine K.RW.nil ?_
                refine K.thn_normal ?_
                refine K.KW.ifF rfl ?_
                refine K.KW.seq ?_
                -- region 16 law.go:34
                refine K.KW.region ?_
                by_cases h_51 : (n.k : Int) = (9 : Int)
                ·  -- yes
                  refine K.RW.q rfl rfl (K.QR.nice (v := .bool ((n.k : Int) == (9 : Int))) (by kernel_rfl) (congrArg Value.bool (beq_iff_eq.2 h_51))) ?_
                  refine K.RW.q rfl rfl (K.QR.k (v := .bool true) (by kernel_rfl)) ?_
                  refine K.RW.nil ?_
                  refine K.thn_normal ?_
                  refine K.KW.ifT rfl ?_
                  refine K.KW.seq ?_
                  -- region 17 law.go:35
                  refine K.KW.region ?_
                  refine K.RW.q rfl rfl (K.QR.k (v := .pointer none) (by kernel_rfl)) ?_
                  refine K.RW.q rfl rfl (K.QR.k (v := .pointer (some ⟨r_2, 1, none⟩)) (by kernel_rfl)) ?_
                  refine K.RW.q rfl rfl (K.QR.ld1 (v := .int .i64 n.a) rfl rfl (by kernel_rfl) (b_6.cell rfl)) ?_
                  refine K.RW.l rfl (K.OW.call rfl [.pointer none, .int .i64 n.a] rfl rfl (by kernel_rfl) (lGen0 n.a _) ?_) 
                  rintro _ w_53 ⟨rfl, c_52⟩
                  have c_54 := c_7.no c_52
                  have z_55 := c_54.size
                  have f_56 := b_6.no c_52
                  refine K.RW.q rfl rfl (K.QR.k (v := .int .i64 0) (by kernel_rfl)) ?_
                  refine K.RW.nil ?_
                  refine K.thn_normal ?_
                  refine K.KW.ret ?_
                  refine K.blk_ret ?_
                  refine K.thn_ret ?_
                  refine ⟨.inr rfl, (.int .i64 0), K.res1 rfl rfl, ?_⟩
                  exact ⟨rfl, c_54⟩
                ·  -- no
                  refine K.RW.q rfl rfl (K.QR.nice (v := .bool ((n.k : Int) == (9 : Int))) (by kernel_rfl) (congrArg Value.bool (beq_eq_false_iff_ne.2 h_51))) ?_
                  refine K.RW.q rfl rfl (K.QR.k (v := .bool false) (by kernel_rfl)) ?_
                  refine K.RW.nil ?_
                  refine K.thn_normal ?_
                  refine K.KW.ifF rfl ?_
                  refine K.KW.seq ?_
                  -- region 18 law.go:36
                  refine K.KW.region ?_
                  by_cases h_57 : (n.k : Int) = (10 : Int)
                  ·  -- yes
                    refine K.RW.q rfl rfl (K.QR.nice (v := .bool ((n.k : Int) == (10 : Int))) (by kernel_rfl) (congrArg Value.bool (beq_iff_eq.2 h_57))) ?_
                    refine K.RW.q rfl rfl (K.QR.k (v := .bool true) (by kernel_rfl)) ?_
                    refine K.RW.nil ?_
                    refine K.thn_normal ?_
                    refine K.KW.ifT rfl ?_
                    refine K.KW.seq ?_
                    -- region 19 law.go:37
                    refine K.KW.region ?_
                    refine K.RW.q rfl rfl (K.QR.k (v := .pointer none) (by kernel_rfl)) ?_
                    refine K.RW.q rfl rfl (K.QR.k (v := .pointer (some ⟨r_2, 1, none⟩)) (by kernel_rfl)) ?_
                    refine K.RW.q rfl rfl (K.QR.ld1 (v := .int .i64 n.a) rfl rfl (by kernel_rfl) (b_6.cell rfl)) ?_
                    refine K.RW.l rfl (K.OW.call rfl [.pointer none, .int .i64 n.a] rfl rfl (by kernel_rfl) (lKey0 n.a _) ?_) 
                    rintro _ w_59 ⟨rfl, c_58⟩
                    have c_60 := c_7.no c_58
                    have z_61 := c_60.size
                    have f_62 := b_6.no c_58
                    refine K.RW.q rfl rfl (K.QR.k (v := .int .i64 0) (by kernel_rfl)) ?_
                    refine K.RW.nil ?_
                    refine K.thn_normal ?_
                    refine K.KW.ret ?_
                    refine K.blk_ret ?_
                    refine K.thn_ret ?_
                    refine ⟨.inr rfl, (.int .i64 0), K.res1 rfl rfl, ?_⟩
                    exact ⟨rfl, c_60⟩
                  ·  -- no
                    refine K.RW.q rfl rfl (K.QR.nice (v := .bool ((n.k : Int) == (10 : Int))) (by kernel_rfl) (congrArg Value.bool (beq_eq_false_iff_ne.2 h_57))) ?_
                    refine K.RW.q rfl rfl (K.QR.k (v := .bool false) (by kernel_rfl)) ?_
                    refine K.RW.nil ?_
                    refine K.thn_normal ?_
                    refine K.KW.ifF rfl ?_
                    refine K.KW.seq ?_
                    -- region 20 law.go:38
                    refine K.KW.region ?_
                    by_cases h_63 : (n.k : Int) = (11 : Int)
                    ·  -- yes
                      refine K.RW.q rfl rfl (K.QR.nice (v := .bool ((n.k : Int) == (11 : Int))) (by kernel_rfl) (congrArg Value.bool (beq_iff_eq.2 h_63))) ?_
                      refine K.RW.q rfl rfl (K.QR.k (v := .bool true) (by kernel_rfl)) ?_
                      refine K.RW.nil ?_
                      refine K.thn_normal ?_
                      refine K.KW.ifT rfl ?_
                      refine K.KW.seq ?_
                      -- region 21 law.go:39
                      refine K.KW.region ?_
                      refine K.RW.q rfl rfl (K.QR.k (v := .pointer none) (by kernel_rfl)) ?_
                      refine K.RW.q rfl rfl (K.QR.k (v := .pointer (some ⟨r_2, 1, none⟩)) (by kernel_rfl)) ?_
                      refine K.RW.q rfl rfl (K.QR.ld1 (v := .int .i64 n.a) rfl rfl (by kernel_rfl) (b_6.cell rfl)) ?_
                      refine K.RW.l rfl (K.OW.call rfl [.pointer none, .int .i64 n.a] rfl rfl (by kernel_rfl) (lVal0 n.a _) ?_) 
                      rintro _ w_65 ⟨rfl, c_64⟩
                      have c_66 := c_7.no c_64
                      have z_67 := c_66.size
                      have f_68 := b_6.no c_64
                      refine K.RW.q rfl rfl (K.QR.k (v := .int .i64 0) (by kernel_rfl)) ?_
                      refine K.RW.nil ?_
                      refine K.thn_normal ?_
                      refine K.KW.ret ?_
                      refine K.blk_ret ?_
                      refine K.thn_ret ?_
                      refine ⟨.inr rfl, (.int .i64 0), K.res1 rfl rfl, ?_⟩
                      exact ⟨rfl, c_66⟩
                    ·  -- no
                      refine K.RW.q rfl rfl (K.QR.nice (v := .bool ((n.k : Int) == (11 : Int))) (by kernel_rfl) (congrArg Value.bool (beq_eq_false_iff_ne.2 h_63))) ?_
                      refine K.RW.q rfl rfl (K.QR.k (v := .bool false) (by kernel_rfl)) ?_
                      refine K.RW.nil ?_
                      refine K.thn_normal ?_
                      refine K.KW.ifF rfl ?_
                      refine K.KW.seq ?_
                      -- region 22 law.go:40
                      refine K.KW.region ?_
                      by_cases h_69 : (n.k : Int) = (12 : Int)
                      ·  -- yes
                        refine K.RW.q rfl rfl (K.QR.nice (v := .bool ((n.k : Int) == (12 : Int))) (by kernel_rfl) (congrArg Value.bool (beq_iff_eq.2 h_69))) ?_
                        refine K.RW.q rfl rfl (K.QR.k (v := .bool true) (by kernel_rfl)) ?_
                        refine K.RW.nil ?_
                        refine K.thn_normal ?_
                        refine K.KW.ifT rfl ?_
                        refine K.KW.seq ?_
                        -- region 23 law.go:41
                        refine K.KW.region ?_
                        refine K.RW.q rfl rfl (K.QR.k (v := .pointer none) (by kernel_rfl)) ?_
                        refine K.RW.q rfl rfl (K.QR.k (v := .pointer (some ⟨r_2, 1, none⟩)) (by kernel_rfl)) ?_
                        refine K.RW.q rfl rfl (K.QR.ld1 (v := .int .i64 n.a) rfl rfl (by kernel_rfl) (b_6.cell rfl)) ?_
                        refine K.RW.l rfl (K.OW.call rfl [.pointer none, .int .i64 n.a] rfl rfl (by kernel_rfl) (lNext0 n.a _) ?_) 
                        rintro _ w_71 ⟨rfl, c_70⟩
                        have c_72 := c_7.no c_70
                        have z_73 := c_72.size
                        have f_74 := b_6.no c_70
                        refine K.RW.q rfl rfl (K.QR.k (v := .int .i64 0) (by kernel_rfl)) ?_
                        refine K.RW.nil ?_
                        refine K.thn_normal ?_
                        refine K.KW.ret ?_
                        refine K.blk_ret ?_
                        refine K.thn_ret ?_
                        refine ⟨.inr rfl, (.int .i64 0), K.res1 rfl rfl, ?_⟩
                        exact ⟨rfl, c_72⟩
                      ·  -- no
                        refine K.RW.q rfl rfl (K.QR.nice (v := .bool ((n.k : Int) == (12 : Int))) (by kernel_rfl) (congrArg Value.bool (beq_eq_false_iff_ne.2 h_69))) ?_
                        refine K.RW.q rfl rfl (K.QR.k (v := .bool false) (by kernel_rfl)) ?_
                        refine K.RW.nil ?_
                        refine K.thn_normal ?_
                        refine K.KW.ifF rfl ?_
                        refine K.KW.seq ?_
                        -- region 24 law.go:42
                        refine K.KW.region ?_
                        by_cases h_75 : (n.k : Int) = (13 : Int)
                        ·  -- yes
                          refine K.RW.q rfl rfl (K.QR.nice (v := .bool ((n.k : Int) == (13 : Int))) (by kernel_rfl) (congrArg Value.bool (beq_iff_eq.2 h_75))) ?_
                          refine K.RW.q rfl rfl (K.QR.k (v := .bool true) (by kernel_rfl)) ?_
                          refine K.RW.nil ?_
                          refine K.thn_normal ?_
                          refine K.KW.ifT rfl ?_
                          refine K.KW.seq ?_
                          -- region 25 law.go:43
                          refine K.KW.region ?_
                          refine K.RW.q rfl rfl (K.QR.k (v := .pointer none) (by kernel_rfl)) ?_
                          refine K.RW.q rfl rfl (K.QR.k (v := .pointer (some ⟨r_2, 1, none⟩)) (by kernel_rfl)) ?_
                          refine K.RW.q rfl rfl (K.QR.ld1 (v := .int .i64 n.a) rfl rfl (by kernel_rfl) (b_6.cell rfl)) ?_
                          refine K.RW.l rfl (K.OW.call rfl [.pointer none, .int .i64 n.a] rfl rfl (by kernel_rfl) (lTag0 n.a _) ?_) 
                          rintro _ w_77 ⟨rfl, c_76⟩
                          have c_78 := c_7.no c_76
                          have z_79 := c_78.size
                          have f_80 := b_6.no c_76
                          refine K.RW.q rfl rfl (K.QR.k (v := .int .i64 0) (by kernel_rfl)) ?_
                          refine K.RW.nil ?_
                          refine K.thn_normal ?_
                          refine K.KW.ret ?_
                          refine K.blk_ret ?_
                          refine K.thn_ret ?_
                          refine ⟨.inr rfl, (.int .i64 0), K.res1 rfl rfl, ?_⟩
                          exact ⟨rfl, c_78⟩
                        ·  -- no
                          refine K.RW.q rfl rfl (K.QR.nice (v := .bool ((n.k : Int) == (13 : Int))) (by kernel_rfl) (congrArg Value.bool (beq_eq_false_iff_ne.2 h_75))) ?_
                          refine K.RW.q rfl rfl (K.QR.k (v := .bool false) (by kernel_rfl)) ?_
                          refine K.RW.nil ?_
                          refine K.thn_normal ?_
                          refine K.KW.ifF rfl ?_
                          refine K.KW.seq ?_
                          -- region 26 law.go:44
                          refine K.KW.region ?_
                          by_cases h_81 : (n.k : Int) = (14 : Int)
                          ·  -- yes
                            refine K.RW.q rfl rfl (K.QR.nice (v := .bool ((n.k : Int) == (14 : Int))) (by kernel_rfl) (congrArg Value.bool (beq_iff_eq.2 h_81))) ?_
                            refine K.RW.q rfl rfl (K.QR.k (v := .bool true) (by kernel_rfl)) ?_
                            refine K.RW.nil ?_
                            refine K.thn_normal ?_
                            refine K.KW.ifT rfl ?_
                            refine K.KW.seq ?_
                            -- region 27 law.go:45
                            refine K.KW.region ?_
                            refine K.RW.q rfl rfl (K.QR.k (v := .pointer none) (by kernel_rfl)) ?_
                            refine K.RW.l rfl (K.OW.call rfl [.pointer none] rfl rfl (by kernel_rfl) (lEpoch0  _) ?_) 
                            rintro _ w_83 ⟨rfl, c_82⟩
                            have c_84 := c_7.no c_82
                            have z_85 := c_84.size
                            have f_86 := b_6.no c_82
                            refine K.RW.q rfl rfl (K.QR.k (v := .int .i64 0) (by kernel_rfl)) ?_
                            refine K.RW.nil ?_
                            refine K.thn_normal ?_
                            refine K.KW.ret ?_
                            refine K.blk_ret ?_
                            refine K.thn_ret ?_
                            refine ⟨.inr rfl, (.int .i64 0), K.res1 rfl rfl, ?_⟩
                            exact ⟨rfl, c_84⟩
                          ·  -- no
                            refine K.RW.q rfl rfl (K.QR.nice (v := .bool ((n.k : Int) == (14 : Int))) (by kernel_rfl) (congrArg Value.bool (beq_eq_false_iff_ne.2 h_81))) ?_
                            refine K.RW.q rfl rfl (K.QR.k (v := .bool false) (by kernel_rfl)) ?_
                            refine K.RW.nil ?_
                            refine K.thn_normal ?_
                            refine K.KW.ifF rfl ?_
                            refine K.KW.seq ?_
                            -- region 28 law.go:46
                            refine K.KW.region ?_
                            by_cases h_87 : (n.k : Int) = (15 : Int)
                            ·  -- yes
                              refine K.RW.q rfl rfl (K.QR.nice (v := .bool ((n.k : Int) == (15 : Int))) (by kernel_rfl) (congrArg Value.bool (beq_iff_eq.2 h_87))) ?_
                              refine K.RW.q rfl rfl (K.QR.k (v := .bool true) (by kernel_rfl)) ?_
                              refine K.RW.nil ?_
                              refine K.thn_normal ?_
                              refine K.KW.ifT rfl ?_
                              refine K.KW.seq ?_
                              -- region 29 law.go:47
                              refine K.KW.region ?_
                              refine K.RW.q rfl rfl (K.QR.k (v := .pointer none) (by kernel_rfl)) ?_
                              refine K.RW.l rfl (K.OW.call rfl [.pointer none] rfl rfl (by kernel_rfl) (lFree0  _) ?_) 
                              rintro _ w_89 ⟨rfl, c_88⟩
                              have c_90 := c_7.no c_88
                              have z_91 := c_90.size
                              have f_92 := b_6.no c_88
                              refine K.RW.q rfl rfl (K.QR.k (v := .int .i64 0) (by kernel_rfl)) ?_
                              refine K.RW.nil ?_
                              refine K.thn_normal ?_
                              refine K.KW.ret ?_
                              refine K.blk_ret ?_
                              refine K.thn_ret ?_
                              refine ⟨.inr rfl, (.int .i64 0), K.res1 rfl rfl, ?_⟩
                              exact ⟨rfl, c_90⟩
                            ·  -- no
                              refine K.RW.q rfl rfl (K.QR.nice (v := .bool ((n.k : Int) == (15 : Int))) (by kernel_rfl) (congrArg Value.bool (beq_eq_false_iff_ne.2 h_87))) ?_
                              refine K.RW.q rfl rfl (K.QR.k (v := .bool false) (by kernel_rfl)) ?_
                              refine K.RW.nil ?_
                              refine K.thn_normal ?_
                              refine K.KW.ifF rfl ?_
                              refine K.KW.seq ?_
                              -- region 30 law.go:48
                              refine K.KW.region ?_
                              by_cases h_93 : (n.k : Int) = (16 : Int)
                              ·  -- yes
                                refine K.RW.q rfl rfl (K.QR.nice (v := .bool ((n.k : Int) == (16 : Int))) (by kernel_rfl) (congrArg Value.bool (beq_iff_eq.2 h_93))) ?_
                                refine K.RW.q rfl rfl (K.QR.k (v := .bool true) (by kernel_rfl)) ?_
                                refine K.RW.nil ?_
                                refine K.thn_normal ?_
                                refine K.KW.ifT rfl ?_
                                refine K.KW.seq ?_
                                -- region 31 law.go:49
                                refine K.KW.region ?_
                                refine K.RW.q rfl rfl (K.QR.k (v := .pointer none) (by kernel_rfl)) ?_
                                refine K.RW.q rfl rfl (K.QR.k (v := .pointer (some ⟨r_2, 1, none⟩)) (by kernel_rfl)) ?_
                                refine K.RW.q rfl rfl (K.QR.ld1 (v := .int .i64 n.a) rfl rfl (by kernel_rfl) (b_6.cell rfl)) ?_
                                refine K.RW.l rfl (K.OW.call rfl [.pointer none, .int .i64 n.a] rfl rfl (by kernel_rfl) (lAnnounce0 n.a _) ?_) 
                                rintro _ w_95 ⟨rfl, c_94⟩
                                have c_96 := c_7.no c_94
                                have z_97 := c_96.size
                                have f_98 := b_6.no c_94
                                refine K.RW.q rfl rfl (K.QR.k (v := .int .i64 0) (by kernel_rfl)) ?_
                                refine K.RW.nil ?_
                                refine K.thn_normal ?_
                                refine K.KW.ret ?_
                                refine K.blk_ret ?_
                                refine K.thn_ret ?_
                                refine ⟨.inr rfl, (.int .i64 0), K.res1 rfl rfl, ?_⟩
                                exact ⟨rfl, c_96⟩
                              ·  -- no
                                refine K.RW.q rfl rfl (K.QR.nice (v := .bool ((n.k : Int) == (16 : Int))) (by kernel_rfl) (congrArg Value.bool (beq_eq_false_iff_ne.2 h_93))) ?_
                                refine K.RW.q rfl rfl (K.QR.k (v := .bool false) (by kernel_rfl)) ?_
                                refine K.RW.nil ?_
                                refine K.thn_normal ?_
                                refine K.KW.ifF rfl ?_
                                refine K.KW.skip ?_
                                refine K.blk_normal ?_
                                refine K.thn_normal ?_
                                refine K.KW.seq ?_
                                -- region 32 law.go:51
                                refine K.KW.region ?_
                                refine K.RW.q rfl rfl (K.QR.k (v := .pointer none) (by kernel_rfl)) ?_
                                refine K.RW.q rfl rfl (K.QR.k (v := .pointer (some ⟨r_2, 1, none⟩)) (by kernel_rfl)) ?_
                                refine K.RW.q rfl rfl (K.QR.ld1 (v := .int .i64 n.a) rfl rfl (by kernel_rfl) (b_6.cell rfl)) ?_
                                refine K.RW.l rfl (K.OW.call rfl [.pointer none, .int .i64 n.a] rfl rfl (by kernel_rfl) (lAfter0 n.a _) ?_) 
                                rintro _ w_100 ⟨rfl, c_99⟩
                                have c_101 := c_7.no c_99
                                have z_102 := c_101.size
                                have f_103 := b_6.no c_99
                                refine K.RW.q rfl rfl (K.QR.k (v := .int .i64 0) (by kernel_rfl)) ?_
                                refine K.RW.nil ?_
                                refine K.thn_normal ?_
                                refine K.KW.ret ?_
                                refine ⟨.inr rfl, (.int .i64 0), K.res1 rfl rfl, ?_⟩
                                exact ⟨rfl, c_101⟩

set_option maxHeartbeats 1000000 in
set_option maxRecDepth 100000 in
theorem fill_ok (B : Nat) (a : Option Addr) (n cap : Nat) (xs : List Nm) (w0 : World) (hB : B ≤ w0.heap.size) (hl : xs.length = n) (hm : (n + 8) * 24 ≤ 140737488355328) (ho : K.Own w0 B 81 3 a n cap ((xs).flatMap cNm)) :
    K.KC Try.prog 64 #[.slice a n cap] w0 (fun v w' => ∃ r m c, v = .slice r m c ∧ K.Chg (K.Ow a) w0 w' ∧ K.Own w' B 81 3 r m c ((fillN xs).flatMap cNm) ∧ (fillN xs).length = m ∧ m = n + (8 - n % 8) % 8 ∧ (∀ k, K.Ow r k → k < w0.heap.size → K.Ow a k)) := by
  refine K.KC.mk (n := 12) Try.func64 rfl rfl [.slice a n cap] rfl rfl ?_
  have c_0 : K.Chg (K.Ow a) w0 w0 := (K.Chg.refl w0).mono fun _ _ h => h.elim
  refine K.KW.seq ?_
  -- region 0 ref.go:35
  refine K.KW.region ?_
  refine K.RW.q rfl rfl (K.QR.k (v := .slice none 0 0) (by kernel_rfl)) ?_
  refine K.RW.nil ?_
  refine K.thn_normal ?_
  refine K.KW.seq ?_
  refine K.KW.block ?_
  refine K.KW.loop (fun m_ F_ w_1 => ∃ (ys : List Nm) (r : Option Addr) (m1 : Nat) (c1 : Nat), m_ = n + 8 - m1 ∧ K.Sl F_ [(0, .slice r m1 c1), (2, .slice none 0 0)] ∧ ys.length = m1 ∧ n ≤ m1 ∧ m1 ≤ n + (8 - n % 8) % 8 ∧ ys = xs ++ List.replicate (m1 - xs.length) nm0 ∧ (∀ k, K.Ow r k → k < w0.heap.size → K.Ow a k) ∧ K.Chg (K.Ow a) w0 w_1 ∧ K.Own w_1 B 81 3 r m1 c1 ((ys).flatMap cNm)) ((fun (ys : List Nm) (r : Option Addr) (m1 : Nat) (c1 : Nat) => n + 8 - m1) xs a n cap) ?_ ?_
  · -- the loop begins
    exact ⟨xs, a, n, cap, rfl, ⟨by rfl, by rfl, trivial⟩, (hl), (by omega), (by omega), (by rw [hl, Nat.sub_self]; simp), (fun k h _ => h), c_0, ho⟩
  · -- a round
    intro m_2 F_3 w_1 hI
    obtain ⟨ys, r, m1, c1, rfl, sl_4, p_6, p_7, p_8, p_9, p_10, c_5, f_11⟩ := hI
    rw [← K.Sl.puts sl_4]; clear sl_4
    have z_12 := c_5.size
    refine K.KW.seq ?_
    refine K.KW.seq ?_
    -- region 1 ref.go:36
    refine K.KW.region ?_
    refine K.RW.q rfl rfl (K.QR.k (v := .slice r m1 c1) (by kernel_rfl)) ?_
    refine K.RW.q rfl rfl (K.QR.len (P := Try.prog) rfl rfl Try.underlying68) ?_
    refine K.RW.q rfl rfl (K.QR.remi64 (((m1 : Nat) : Int) : Int) 8 ((m1 % 8 : Nat) : Int) (by kernel_rfl) (by omega) (by omega)) ?_
    by_cases h_13 : (((m1 % 8 : Nat) : Int) : Int) = (0 : Int)
    ·  -- yes
      refine K.RW.q rfl rfl (K.QR.nice (v := .bool ((((m1 % 8 : Nat) : Int) : Int) != (0 : Int))) (by kernel_rfl) (congrArg Value.bool (bne_eq_false_iff_eq.2 h_13))) ?_
      refine K.RW.nil ?_
      refine K.thn_normal ?_
      refine K.KW.ifF rfl ?_
      refine K.KW.exit ?_
      refine K.thn_exit ?_
      refine K.thn_exit ?_
      refine K.blk_hit ?_
      refine K.thn_normal ?_
      refine K.KW.seq ?_
      -- region 3 ref.go:39
      refine K.KW.region ?_
      refine K.RW.q rfl rfl (K.QR.k (v := .slice r m1 c1) (by kernel_rfl)) ?_
      refine K.RW.q rfl rfl (K.QR.k (v := .slice r m1 c1) (by kernel_rfl)) ?_
      refine K.RW.nil ?_
      refine K.thn_normal ?_
      refine K.KW.ret ?_
      refine ⟨.inr rfl, (.slice r m1 c1), K.res1 rfl rfl, ?_⟩
      obtain rfl : ys = fillN xs := fill_done (m := m1) (by assumption) (by omega)
      exact ⟨_, _, _, rfl, c_5, f_11, by assumption, by omega, by assumption⟩
    ·  -- no
      refine K.RW.q rfl rfl (K.QR.nice (v := .bool ((((m1 % 8 : Nat) : Int) : Int) != (0 : Int))) (by kernel_rfl) (congrArg Value.bool (bne_iff_ne.2 h_13))) ?_
      refine K.RW.nil ?_
      refine K.thn_normal ?_
      refine K.KW.ifT rfl ?_
      refine K.KW.skip ?_
      refine K.thn_normal ?_
      refine K.KW.block ?_
      -- region 2 ref.go:37
      refine K.KW.region ?_
      refine K.RW.q rfl rfl (K.QR.k (v := .slice r m1 c1) (by kernel_rfl)) ?_
      refine K.RW.q rfl rfl (K.QR.bd [] [.int .i64 0, .int .i64 0, .int .i64 0] rfl rfl (by kernel_rfl)) ?_
      refine K.RW.l rfl (K.OW.bs rfl [(0, .agg #[.int .i64 0, .int .i64 0, .int .i64 0])] [.int .i64 0, .int .i64 0, .int .i64 0] rfl rfl (fun w => K.bs_run (P := Try.prog) w 68 81 1 _ _ Try.underlying68 (by kernel_rfl)) ?_) 
      intro w_14 r_15 hr_16 e_17 hs_18 b_19
      have c_20 := c_5.no e_17
      have z_21 := c_20.size
      have f_22 := f_11.no e_17
      have ap_23 : ∀ k, K.Ow r k → ¬ k = r_15 := fun k hk he => absurd (f_11.lt k hk) (by omega)
      refine K.RW.l rfl (K.OW.app2 (P := Try.prog) (xs := (ys).flatMap cNm) (z := .agg #[.int .i64 0, .int .i64 0, .int .i64 0]) (size := 3) (bytes := 24) rfl [.int .i64 0, .int .i64 0, .int .i64 0] rfl rfl f_22 rfl Try.underlying68 (by kernel_rfl) rfl (by decide) (by rfl) (fun j u hj => (by rw [Nat.zero_add]; exact b_19.cell hj)) (K.one_cells (by rfl)) (by unfold maxLen; omega) (by omega) (by omega) ?_) 
      intro a_24 cap_25 w_26 e_27 o_28 hk_29
      have c_30 := c_20.trans e_27 (fun i hi hy => p_10 i hy hi)
      have z_31 := c_30.size
      have hr_32 := K.root_app (B := w0.heap.size) p_10 hk_29 (by omega)
      have o_28t := K.Own.snoc (c := cNm) (L := ys) (⟨0, 0, 0⟩ : Nm) rfl o_28
      have ln_33 : ((ys ++ [(⟨0, 0, 0⟩ : Nm)])).length = m1 + 1 := by rw [List.length_append, p_6]; rfl
      refine K.RW.q rfl rfl (K.QR.k (v := .slice a_24 (m1 + 1) cap_25) (by kernel_rfl)) ?_
      refine K.RW.nil ?_
      refine K.blk_normal ?_
      refine K.thn_normal ?_
      refine ⟨_, ?_, (ys ++ [(⟨0, 0, 0⟩ : Nm)]), a_24, m1 + 1, cap_25, rfl, ⟨by rfl, by rfl, trivial⟩, (ln_33), (by omega), (by omega), (fill_step (by assumption) (by omega)), (hr_32), c_30, o_28t⟩
      omega

set_option maxHeartbeats 4000000 in
set_option maxRecDepth 100000 in
theorem lasting_ok (c : Cfg) (w0 : World) (hc : cfgOk c) :
    K.KC Try.prog 38 #[.agg #[.int .i64 c.th, .int .i64 c.sl, .int .i64 c.lo, .int .i64 c.bu]] w0 (fun v w' => ∃ r m cc, v = .slice r m cc ∧ K.Chg K.No w0 w' ∧ K.Own w' w0.heap.size 81 3 r m cc ((lasting c).flatMap cNm) ∧ (lasting c).length = m) := by
  have hcc := hc
  unfold cfgOk at hcc
  refine K.KC.mk (n := 111) Try.func38 rfl rfl [.agg #[.int .i64 c.th, .int .i64 c.sl, .int .i64 c.lo, .int .i64 c.bu]] rfl rfl ?_
  refine K.KW.seq ?_
  -- region 0 ref.go:43
  refine K.KW.region ?_
  refine K.RW.l rfl (K.OW.new (t := 63) rfl (fun r => .pointer (some ⟨r, 0, none⟩)) [.int .i64 c.th, .int .i64 c.sl, .int .i64 c.lo, .int .i64 c.bu] (by kernel_rfl) ?_) 
  intro w_1 r_2 hr_3 e_4 hs_5 b_6
  have c_7 := e_4
  have z_8 := c_7.size
  refine K.RW.q rfl rfl (K.QR.k (v := .slice none 0 0) (by kernel_rfl)) ?_
  refine K.RW.nil ?_
  refine K.thn_normal ?_
  refine K.KW.seq ?_
  -- region 1 ref.go:44
  refine K.KW.region ?_
  refine K.RW.q rfl rfl (K.QR.k (v := .slice none 0 0) (by kernel_rfl)) ?_
  refine K.RW.nil ?_
  refine K.thn_normal ?_
  refine K.KW.seq ?_
  refine K.KW.seq ?_
  -- region 2 ref.go:45
  refine K.KW.region ?_
  refine K.RW.q rfl rfl (K.QR.k (v := .int .i64 0) (by kernel_rfl)) ?_
  refine K.RW.nil ?_
  refine K.thn_normal ?_
  refine K.KW.block ?_
  refine K.KW.loop (fun m_ F_ w_9 => ∃ (i : Nat) (xr : Option Addr) (xm : Nat) (xc : Nat), m_ = (16 - (i : Nat) : Int).toNat ∧ K.Sl F_ [(0, .agg #[.int .i64 c.th, .int .i64 c.sl, .int .i64 c.lo, .int .i64 c.bu]), (1, .pointer (some ⟨r_2, 0, none⟩)), (2, .slice none 0 0), (3, .slice xr xm xc), (4, .int .i64 ((i : Nat) : Int))] ∧ ((i : Nat) : Int) ≤ 16 ∧ (supT i).length = xm ∧ xm ≤ i ∧ K.Chg K.No w0 w_9 ∧ K.Own w_9 w0.heap.size 81 3 xr xm xc ((supT i).flatMap cNm) ∧ K.Blk w_9 r_2 63 [.int .i64 c.th, .int .i64 c.sl, .int .i64 c.lo, .int .i64 c.bu]) ((fun (i : Nat) (xr : Option Addr) (xm : Nat) (xc : Nat) => (16 - (i : Nat) : Int).toNat) 0 none 0 0) ?_ ?_
  · -- the loop begins
    exact ⟨0, none, 0, 0, rfl, ⟨by rfl, by rfl, by rfl, by rfl, by rfl, trivial⟩, (by omega), (by rfl), (by omega), c_7, K.Own.nil _ _ _ _, b_6⟩
  · -- a round
    intro m_11 F_12 w_9 hI
    obtain ⟨i, xr, xm, xc, rfl, sl_13, p_15, p_16, p_17, c_14, f_18, f_19⟩ := hI
    rw [← K.Sl.puts sl_13]; clear sl_13
    have z_20 := c_14.size
    refine K.KW.seq ?_
    refine K.KW.seq ?_
    -- region 3 ref.go:45
    refine K.KW.region ?_
    refine K.RW.q rfl rfl (K.QR.k (v := .int .i64 ((i : Nat) : Int)) (by kernel_rfl)) ?_
    by_cases h_21 : (((i : Nat) : Int) : Int) < (16 : Int)
    ·  -- yes
      refine K.RW.q rfl rfl (K.QR.nice (v := .bool (decide ((((i : Nat) : Int) : Int) < (16 : Int)))) (by kernel_rfl) (congrArg Value.bool (decide_eq_true h_21))) ?_
      refine K.RW.nil ?_
      refine K.thn_normal ?_
      refine K.KW.ifT rfl ?_
      refine K.KW.skip ?_
      refine K.thn_normal ?_
      refine K.KW.seq ?_
      refine K.KW.block ?_
      -- region 5 ref.go:46
      refine K.KW.region ?_
      refine K.RW.q rfl rfl (K.QR.k (v := .slice xr xm xc) (by kernel_rfl)) ?_
      refine K.RW.q rfl rfl (K.QR.k (v := .int .i64 ((i : Nat) : Int)) (by kernel_rfl)) ?_
      refine K.RW.q rfl rfl (K.QR.quoi64 (((i : Nat) : Int) : Int) 8 ((i / 8 : Nat) : Int) (by kernel_rfl) (by omega) (by omega)) ?_
      refine K.RW.q rfl rfl (K.QR.k (v := .int .i64 ((i : Nat) : Int)) (by kernel_rfl)) ?_
      refine K.RW.q rfl rfl (K.QR.remi64 (((i : Nat) : Int) : Int) 8 ((i % 8 : Nat) : Int) (by kernel_rfl) (by omega) (by omega)) ?_
      refine K.RW.q rfl rfl (K.QR.bd [(0, .int .i64 1), (1, .int .i64 ((i / 8 : Nat) : Int)), (2, .int .i64 ((i % 8 : Nat) : Int))] [.int .i64 1, .int .i64 ((i / 8 : Nat) : Int), .int .i64 ((i % 8 : Nat) : Int)] rfl rfl (by kernel_rfl)) ?_
      refine K.RW.l rfl (K.OW.bs rfl [(0, .agg #[.int .i64 1, .int .i64 ((i / 8 : Nat) : Int), .int .i64 ((i % 8 : Nat) : Int)])] [.int .i64 1, .int .i64 ((i / 8 : Nat) : Int), .int .i64 ((i % 8 : Nat) : Int)] rfl rfl (fun w => K.bs_run (P := Try.prog) w 68 81 1 _ _ Try.underlying68 (by kernel_rfl)) ?_) 
      intro w_22 r_23 hr_24 e_25 hs_26 b_27
      have c_28 := c_14.no e_25
      have z_29 := c_28.size
      have f_30 := f_18.no e_25
      have f_31 := f_19.no e_25
      have ap_32 : ∀ k, K.Ow xr k → ¬ k = r_23 := fun k hk he => absurd (f_18.lt k hk) (by omega)
      refine K.RW.l rfl (K.OW.app2 (P := Try.prog) (xs := ((supT i)).flatMap cNm) (z := .agg #[.int .i64 0, .int .i64 0, .int .i64 0]) (size := 3) (bytes := 24) rfl [.int .i64 1, .int .i64 ((i / 8 : Nat) : Int), .int .i64 ((i % 8 : Nat) : Int)] rfl rfl f_30 rfl Try.underlying68 (by kernel_rfl) rfl (by decide) (by rfl) (fun j u hj => (by rw [Nat.zero_add]; exact b_27.cell hj)) (K.one_cells (by rfl)) (by unfold maxLen; omega) (by omega) (by omega) ?_) 
      intro a_33 cap_34 w_35 e_36 o_37 hk_38
      have c_39 := c_28.trans e_36 (fun i hi hy => absurd (f_30.base_le i hy) (by omega))
      have z_40 := c_39.size
      have f_41 := f_31.chg e_36 (fun hk => f_30.ne_ty f_31 (by decide) _ hk rfl)
      have o_37t := K.Own.snoc (c := cNm) (L := (supT i)) (⟨1, ((i / 8 : Nat) : Int), ((i % 8 : Nat) : Int)⟩ : Nm) rfl o_37
      have ln_42 : (((supT i) ++ [(⟨1, ((i / 8 : Nat) : Int), ((i % 8 : Nat) : Int)⟩ : Nm)])).length = xm + 1 := by rw [List.length_append, p_16]; rfl
      refine K.RW.q rfl rfl (K.QR.k (v := .slice a_33 (xm + 1) cap_34) (by kernel_rfl)) ?_
      refine K.RW.nil ?_
      refine K.blk_normal ?_
      refine K.thn_normal ?_
      -- region 4 ref.go:45
      refine K.KW.region ?_
      refine K.RW.q rfl rfl (K.QR.k (v := .int .i64 ((i : Nat) : Int)) (by kernel_rfl)) ?_
      refine K.RW.q rfl rfl (K.QR.n64 ((((i : Nat) : Int) : Int) + (1 : Int)) ((i + 1 : Nat) : Int) (by kernel_rfl) (by omega)) ?_
      refine K.RW.q rfl rfl (K.QR.k (v := .int .i64 ((i + 1 : Nat) : Int)) (by kernel_rfl)) ?_
      refine K.RW.nil ?_
      refine K.thn_normal ?_
      refine ⟨_, ?_, i + 1, a_33, xm + 1, cap_34, rfl, ⟨by rfl, by rfl, by rfl, by rfl, by rfl, trivial⟩, (by omega), (by rw [supT_succ]; exact ln_42), (by omega), c_39, (by rw [supT_succ]; exact o_37t), f_41⟩
      omega
    ·  -- no
      refine K.RW.q rfl rfl (K.QR.nice (v := .bool (decide ((((i : Nat) : Int) : Int) < (16 : Int)))) (by kernel_rfl) (congrArg Value.bool (decide_eq_false h_21))) ?_
      refine K.RW.nil ?_
      refine K.thn_normal ?_
      refine K.KW.ifF rfl ?_
      refine K.KW.exit ?_
      refine K.thn_exit ?_
      refine K.thn_exit ?_
      refine K.blk_hit ?_
      refine K.thn_normal ?_
      refine K.KW.seq ?_
      -- region 6 ref.go:48
      refine K.KW.region ?_
      refine K.RW.q rfl rfl (K.QR.k (v := .slice xr xm xc) (by kernel_rfl)) ?_
      refine K.RW.q rfl rfl (K.QR.bd [(0, .int .i64 2)] [.int .i64 2, .int .i64 0, .int .i64 0] rfl rfl (by kernel_rfl)) ?_
      refine K.RW.l rfl (K.OW.bs rfl [(0, .agg #[.int .i64 2, .int .i64 0, .int .i64 0])] [.int .i64 2, .int .i64 0, .int .i64 0] rfl rfl (fun w => K.bs_run (P := Try.prog) w 68 81 1 _ _ Try.underlying68 (by kernel_rfl)) ?_) 
      intro w_43 r_44 hr_45 e_46 hs_47 b_48
      have c_49 := c_14.no e_46
      have z_50 := c_49.size
      have f_51 := f_18.no e_46
      have f_52 := f_19.no e_46
      have ap_53 : ∀ k, K.Ow xr k → ¬ k = r_44 := fun k hk he => absurd (f_18.lt k hk) (by omega)
      refine K.RW.l rfl (K.OW.app2 (P := Try.prog) (xs := ((supT i)).flatMap cNm) (z := .agg #[.int .i64 0, .int .i64 0, .int .i64 0]) (size := 3) (bytes := 24) rfl [.int .i64 2, .int .i64 0, .int .i64 0] rfl rfl f_51 rfl Try.underlying68 (by kernel_rfl) rfl (by decide) (by rfl) (fun j u hj => (by rw [Nat.zero_add]; exact b_48.cell hj)) (K.one_cells (by rfl)) (by unfold maxLen; omega) (by omega) (by omega) ?_) 
      intro a_54 cap_55 w_56 e_57 o_58 hk_59
      have c_60 := c_49.trans e_57 (fun i hi hy => absurd (f_51.base_le i hy) (by omega))
      have z_61 := c_60.size
      have f_62 := f_52.chg e_57 (fun hk => f_51.ne_ty f_52 (by decide) _ hk rfl)
      have o_58t := K.Own.snoc (c := cNm) (L := (supT i)) (⟨2, 0, 0⟩ : Nm) rfl o_58
      have ln_63 : (((supT i) ++ [(⟨2, 0, 0⟩ : Nm)])).length = xm + 1 := by rw [List.length_append, p_16]; rfl
      refine K.RW.q rfl rfl (K.QR.k (v := .slice a_54 (xm + 1) cap_55) (by kernel_rfl)) ?_
      refine K.RW.nil ?_
      refine K.thn_normal ?_
      refine K.KW.seq ?_
      -- region 7 ref.go:49
      refine K.KW.region ?_
      refine K.RW.q rfl rfl (K.QR.k (v := .slice a_54 (xm + 1) cap_55) (by kernel_rfl)) ?_
      refine K.RW.l rfl (K.OW.call rfl [.slice a_54 (xm + 1) cap_55] rfl rfl (by kernel_rfl) (fill_ok w0.heap.size a_54 (xm + 1) cap_55 ((supT i) ++ [(⟨2, 0, 0⟩ : Nm)]) _ (by omega) ln_63 (by omega) o_58t) ?_) 
      rintro _ w_72 ⟨r_64, m_65, cc_66, rfl, c_67, o_68, ln_69, hm_70, hr_71⟩
      have c_73 := c_60.trans c_67 (fun i hi hy => absurd (o_58t.base_le i hy) (by omega))
      have z_74 := c_73.size
      have f_75 := f_62.chg c_67 (fun hk => o_58t.ne_ty f_62 (by decide) _ hk rfl)
      refine K.RW.q rfl rfl (K.QR.k (v := .slice r_64 m_65 cc_66) (by kernel_rfl)) ?_
      refine K.RW.nil ?_
      refine K.thn_normal ?_
      refine K.KW.seq ?_
      -- region 8 ref.go:50
      refine K.KW.region ?_
      refine K.RW.q rfl rfl (K.QR.k (v := .slice r_64 m_65 cc_66) (by kernel_rfl)) ?_
      refine K.RW.q rfl rfl (K.QR.bd [(0, .int .i64 3)] [.int .i64 3, .int .i64 0, .int .i64 0] rfl rfl (by kernel_rfl)) ?_
      refine K.RW.l rfl (K.OW.bs rfl [(0, .agg #[.int .i64 3, .int .i64 0, .int .i64 0])] [.int .i64 3, .int .i64 0, .int .i64 0] rfl rfl (fun w => K.bs_run (P := Try.prog) w 68 81 1 _ _ Try.underlying68 (by kernel_rfl)) ?_) 
      intro w_76 r_77 hr_78 e_79 hs_80 b_81
      have c_82 := c_73.no e_79
      have z_83 := c_82.size
      have f_84 := f_75.no e_79
      have f_85 := o_68.no e_79
      have ap_86 : ∀ k, K.Ow r_64 k → ¬ k = r_77 := fun k hk he => absurd (o_68.lt k hk) (by omega)
      refine K.RW.l rfl (K.OW.app2 (P := Try.prog) (xs := ((fillN ((supT i) ++ [(⟨2, 0, 0⟩ : Nm)]))).flatMap cNm) (z := .agg #[.int .i64 0, .int .i64 0, .int .i64 0]) (size := 3) (bytes := 24) rfl [.int .i64 3, .int .i64 0, .int .i64 0] rfl rfl f_85 rfl Try.underlying68 (by kernel_rfl) rfl (by decide) (by rfl) (fun j u hj => (by rw [Nat.zero_add]; exact b_81.cell hj)) (K.one_cells (by rfl)) (by unfold maxLen; omega) (by omega) (by omega) ?_) 
      intro a_87 cap_88 w_89 e_90 o_91 hk_92
      have c_93 := c_82.trans e_90 (fun i hi hy => absurd (f_85.base_le i hy) (by omega))
      have z_94 := c_93.size
      have f_95 := f_84.chg e_90 (fun hk => f_85.ne_ty f_84 (by decide) _ hk rfl)
      have o_91t := K.Own.snoc (c := cNm) (L := (fillN ((supT i) ++ [(⟨2, 0, 0⟩ : Nm)]))) (⟨3, 0, 0⟩ : Nm) rfl o_91
      have ln_96 : (((fillN ((supT i) ++ [(⟨2, 0, 0⟩ : Nm)])) ++ [(⟨3, 0, 0⟩ : Nm)])).length = m_65 + 1 := by rw [List.length_append, ln_69]; rfl
      refine K.RW.q rfl rfl (K.QR.k (v := .slice a_87 (m_65 + 1) cap_88) (by kernel_rfl)) ?_
      refine K.RW.nil ?_
      refine K.thn_normal ?_
      refine K.KW.seq ?_
      -- region 9 ref.go:51
      refine K.KW.region ?_
      refine K.RW.q rfl rfl (K.QR.k (v := .slice a_87 (m_65 + 1) cap_88) (by kernel_rfl)) ?_
      refine K.RW.l rfl (K.OW.call rfl [.slice a_87 (m_65 + 1) cap_88] rfl rfl (by kernel_rfl) (fill_ok w0.heap.size a_87 (m_65 + 1) cap_88 ((fillN ((supT i) ++ [(⟨2, 0, 0⟩ : Nm)])) ++ [(⟨3, 0, 0⟩ : Nm)]) _ (by omega) ln_96 (by omega) o_91t) ?_) 
      rintro _ w_105 ⟨r_97, m_98, cc_99, rfl, c_100, o_101, ln_102, hm_103, hr_104⟩
      have c_106 := c_93.trans c_100 (fun i hi hy => absurd (o_91t.base_le i hy) (by omega))
      have z_107 := c_106.size
      have f_108 := f_95.chg c_100 (fun hk => o_91t.ne_ty f_95 (by decide) _ hk rfl)
      refine K.RW.q rfl rfl (K.QR.k (v := .slice r_97 m_98 cc_99) (by kernel_rfl)) ?_
      refine K.RW.nil ?_
      refine K.thn_normal ?_
      refine K.KW.seq ?_
      -- region 10 ref.go:52
      refine K.KW.region ?_
      refine K.RW.q rfl rfl (K.QR.k (v := .slice r_97 m_98 cc_99) (by kernel_rfl)) ?_
      refine K.RW.q rfl rfl (K.QR.bd [(0, .int .i64 4)] [.int .i64 4, .int .i64 0, .int .i64 0] rfl rfl (by kernel_rfl)) ?_
      refine K.RW.l rfl (K.OW.bs rfl [(0, .agg #[.int .i64 4, .int .i64 0, .int .i64 0])] [.int .i64 4, .int .i64 0, .int .i64 0] rfl rfl (fun w => K.bs_run (P := Try.prog) w 68 81 1 _ _ Try.underlying68 (by kernel_rfl)) ?_) 
      intro w_109 r_110 hr_111 e_112 hs_113 b_114
      have c_115 := c_106.no e_112
      have z_116 := c_115.size
      have f_117 := f_108.no e_112
      have f_118 := o_101.no e_112
      have ap_119 : ∀ k, K.Ow r_97 k → ¬ k = r_110 := fun k hk he => absurd (o_101.lt k hk) (by omega)
      refine K.RW.l rfl (K.OW.app2 (P := Try.prog) (xs := ((fillN ((fillN ((supT i) ++ [(⟨2, 0, 0⟩ : Nm)])) ++ [(⟨3, 0, 0⟩ : Nm)]))).flatMap cNm) (z := .agg #[.int .i64 0, .int .i64 0, .int .i64 0]) (size := 3) (bytes := 24) rfl [.int .i64 4, .int .i64 0, .int .i64 0] rfl rfl f_118 rfl Try.underlying68 (by kernel_rfl) rfl (by decide) (by rfl) (fun j u hj => (by rw [Nat.zero_add]; exact b_114.cell hj)) (K.one_cells (by rfl)) (by unfold maxLen; omega) (by omega) (by omega) ?_) 
      intro a_120 cap_121 w_122 e_123 o_124 hk_125
      have c_126 := c_115.trans e_123 (fun i hi hy => absurd (f_118.base_le i hy) (by omega))
      have z_127 := c_126.size
      have f_128 := f_117.chg e_123 (fun hk => f_118.ne_ty f_117 (by decide) _ hk rfl)
      have o_124t := K.Own.snoc (c := cNm) (L := (fillN ((fillN ((supT i) ++ [(⟨2, 0, 0⟩ : Nm)])) ++ [(⟨3, 0, 0⟩ : Nm)]))) (⟨4, 0, 0⟩ : Nm) rfl o_124
      have ln_129 : (((fillN ((fillN ((supT i) ++ [(⟨2, 0, 0⟩ : Nm)])) ++ [(⟨3, 0, 0⟩ : Nm)])) ++ [(⟨4, 0, 0⟩ : Nm)])).length = m_98 + 1 := by rw [List.length_append, ln_102]; rfl
      refine K.RW.q rfl rfl (K.QR.k (v := .slice a_120 (m_98 + 1) cap_121) (by kernel_rfl)) ?_
      refine K.RW.nil ?_
      refine K.thn_normal ?_
      refine K.KW.seq ?_
      -- region 11 ref.go:53
      refine K.KW.region ?_
      refine K.RW.q rfl rfl (K.QR.k (v := .slice a_120 (m_98 + 1) cap_121) (by kernel_rfl)) ?_
      refine K.RW.l rfl (K.OW.call rfl [.slice a_120 (m_98 + 1) cap_121] rfl rfl (by kernel_rfl) (fill_ok w0.heap.size a_120 (m_98 + 1) cap_121 ((fillN ((fillN ((supT i) ++ [(⟨2, 0, 0⟩ : Nm)])) ++ [(⟨3, 0, 0⟩ : Nm)])) ++ [(⟨4, 0, 0⟩ : Nm)]) _ (by omega) ln_129 (by omega) o_124t) ?_) 
      rintro _ w_138 ⟨r_130, m_131, cc_132, rfl, c_133, o_134, ln_135, hm_136, hr_137⟩
      have c_139 := c_126.trans c_133 (fun i hi hy => absurd (o_124t.base_le i hy) (by omega))
      have z_140 := c_139.size
      have f_141 := f_128.chg c_133 (fun hk => o_124t.ne_ty f_128 (by decide) _ hk rfl)
      refine K.RW.q rfl rfl (K.QR.k (v := .slice r_130 m_131 cc_132) (by kernel_rfl)) ?_
      refine K.RW.nil ?_
      refine K.thn_normal ?_
      refine K.KW.seq ?_
      refine K.KW.seq ?_
      -- region 12 ref.go:54
      refine K.KW.region ?_
      refine K.RW.q rfl rfl (K.QR.k (v := .int .i64 0) (by kernel_rfl)) ?_
      refine K.RW.nil ?_
      refine K.thn_normal ?_
      refine K.KW.block ?_
      refine K.KW.loop (fun m_ F_ w_142 => ∃ (j : Nat) (yr : Option Addr) (ym : Nat) (yc : Nat), m_ = (c.bu - (j : Nat) : Int).toNat ∧ K.Sl F_ [(0, .agg #[.int .i64 c.th, .int .i64 c.sl, .int .i64 c.lo, .int .i64 c.bu]), (1, .pointer (some ⟨r_2, 0, none⟩)), (2, .slice none 0 0), (3, .slice yr ym yc), (5, .int .i64 ((j : Nat) : Int))] ∧ ((j : Nat) : Int) ≤ c.bu ∧ (bkT j).length = ym ∧ ym = 40 + j ∧ K.Chg K.No w0 w_142 ∧ K.Own w_142 w0.heap.size 81 3 yr ym yc ((bkT j).flatMap cNm) ∧ K.Blk w_142 r_2 63 [.int .i64 c.th, .int .i64 c.sl, .int .i64 c.lo, .int .i64 c.bu]) ((fun (j : Nat) (yr : Option Addr) (ym : Nat) (yc : Nat) => (c.bu - (j : Nat) : Int).toNat) 0 r_130 m_131 cc_132) ?_ ?_
      · -- the loop begins
        exact ⟨0, r_130, m_131, cc_132, rfl, ⟨by rfl, by rfl, by rfl, by rfl, by rfl, trivial⟩, (by omega), (by have h := ln_135; rw [show i = 16 by omega] at h; exact h), (by have h := ln_135; rw [show i = 16 by omega] at h; have h2 := headL_len; have h3 : headL.length = _ := h; omega), c_139, (by have h := o_134; rw [show i = 16 by omega] at h; exact h), f_141⟩
      · -- a round
        intro m_144 F_145 w_142 hI
        obtain ⟨j, yr, ym, yc, rfl, sl_146, p_148, p_149, p_150, c_147, f_151, f_152⟩ := hI
        rw [← K.Sl.puts sl_146]; clear sl_146
        have z_153 := c_147.size
        refine K.KW.seq ?_
        refine K.KW.seq ?_
        -- region 13 ref.go:54
        refine K.KW.region ?_
        refine K.RW.q rfl rfl (K.QR.k (v := .int .i64 ((j : Nat) : Int)) (by kernel_rfl)) ?_
        refine K.RW.q rfl rfl (K.QR.k (v := .pointer (some ⟨r_2, 3, none⟩)) (by kernel_rfl)) ?_
        refine K.RW.q rfl rfl (K.QR.ld1 (v := .int .i64 c.bu) rfl rfl (by kernel_rfl) (f_152.cell rfl)) ?_
        by_cases h_154 : (((j : Nat) : Int) : Int) < (c.bu : Int)
        ·  -- yes
          refine K.RW.q rfl rfl (K.QR.nice (v := .bool (decide ((((j : Nat) : Int) : Int) < (c.bu : Int)))) (by kernel_rfl) (congrArg Value.bool (decide_eq_true h_154))) ?_
          refine K.RW.nil ?_
          refine K.thn_normal ?_
          refine K.KW.ifT rfl ?_
          refine K.KW.skip ?_
          refine K.thn_normal ?_
          refine K.KW.seq ?_
          refine K.KW.block ?_
          -- region 15 ref.go:55
          refine K.KW.region ?_
          refine K.RW.q rfl rfl (K.QR.k (v := .slice yr ym yc) (by kernel_rfl)) ?_
          refine K.RW.q rfl rfl (K.QR.k (v := .int .i64 ((j : Nat) : Int)) (by kernel_rfl)) ?_
          refine K.RW.q rfl rfl (K.QR.bd [(0, .int .i64 5), (1, .int .i64 ((j : Nat) : Int))] [.int .i64 5, .int .i64 ((j : Nat) : Int), .int .i64 0] rfl rfl (by kernel_rfl)) ?_
          refine K.RW.l rfl (K.OW.bs rfl [(0, .agg #[.int .i64 5, .int .i64 ((j : Nat) : Int), .int .i64 0])] [.int .i64 5, .int .i64 ((j : Nat) : Int), .int .i64 0] rfl rfl (fun w => K.bs_run (P := Try.prog) w 68 81 1 _ _ Try.underlying68 (by kernel_rfl)) ?_) 
          intro w_155 r_156 hr_157 e_158 hs_159 b_160
          have c_161 := c_147.no e_158
          have z_162 := c_161.size
          have f_163 := f_151.no e_158
          have f_164 := f_152.no e_158
          have ap_165 : ∀ k, K.Ow yr k → ¬ k = r_156 := fun k hk he => absurd (f_151.lt k hk) (by omega)
          refine K.RW.l rfl (K.OW.app2 (P := Try.prog) (xs := ((bkT j)).flatMap cNm) (z := .agg #[.int .i64 0, .int .i64 0, .int .i64 0]) (size := 3) (bytes := 24) rfl [.int .i64 5, .int .i64 ((j : Nat) : Int), .int .i64 0] rfl rfl f_163 rfl Try.underlying68 (by kernel_rfl) rfl (by decide) (by rfl) (fun j u hj => (by rw [Nat.zero_add]; exact b_160.cell hj)) (K.one_cells (by rfl)) (by unfold maxLen; omega) (by omega) (by omega) ?_) 
          intro a_166 cap_167 w_168 e_169 o_170 hk_171
          have c_172 := c_161.trans e_169 (fun i hi hy => absurd (f_163.base_le i hy) (by omega))
          have z_173 := c_172.size
          have f_174 := f_164.chg e_169 (fun hk => f_163.ne_ty f_164 (by decide) _ hk rfl)
          have o_170t := K.Own.snoc (c := cNm) (L := (bkT j)) (⟨5, ((j : Nat) : Int), 0⟩ : Nm) rfl o_170
          have ln_175 : (((bkT j) ++ [(⟨5, ((j : Nat) : Int), 0⟩ : Nm)])).length = ym + 1 := by rw [List.length_append, p_149]; rfl
          refine K.RW.q rfl rfl (K.QR.k (v := .slice a_166 (ym + 1) cap_167) (by kernel_rfl)) ?_
          refine K.RW.nil ?_
          refine K.blk_normal ?_
          refine K.thn_normal ?_
          -- region 14 ref.go:54
          refine K.KW.region ?_
          refine K.RW.q rfl rfl (K.QR.k (v := .int .i64 ((j : Nat) : Int)) (by kernel_rfl)) ?_
          refine K.RW.q rfl rfl (K.QR.n64 ((((j : Nat) : Int) : Int) + (1 : Int)) ((j + 1 : Nat) : Int) (by kernel_rfl) (by omega)) ?_
          refine K.RW.q rfl rfl (K.QR.k (v := .int .i64 ((j + 1 : Nat) : Int)) (by kernel_rfl)) ?_
          refine K.RW.nil ?_
          refine K.thn_normal ?_
          refine ⟨_, ?_, j + 1, a_166, ym + 1, cap_167, rfl, ⟨by rfl, by rfl, by rfl, by rfl, by rfl, trivial⟩, (by omega), (by exact ln_175), (by omega), c_172, o_170t, f_174⟩
          omega
        ·  -- no
          refine K.RW.q rfl rfl (K.QR.nice (v := .bool (decide ((((j : Nat) : Int) : Int) < (c.bu : Int)))) (by kernel_rfl) (congrArg Value.bool (decide_eq_false h_154))) ?_
          refine K.RW.nil ?_
          refine K.thn_normal ?_
          refine K.KW.ifF rfl ?_
          refine K.KW.exit ?_
          refine K.thn_exit ?_
          refine K.thn_exit ?_
          refine K.blk_hit ?_
          refine K.thn_normal ?_
          refine K.KW.seq ?_
          -- region 16 ref.go:57
          refine K.KW.region ?_
          refine K.RW.q rfl rfl (K.QR.k (v := .slice yr ym yc) (by kernel_rfl)) ?_
          refine K.RW.l rfl (K.OW.call rfl [.slice yr ym yc] rfl rfl (by kernel_rfl) (fill_ok w0.heap.size yr ym yc (bkT j) _ (by omega) p_149 (by omega) f_151) ?_) 
          rintro _ w_184 ⟨r_176, m_177, cc_178, rfl, c_179, o_180, ln_181, hm_182, hr_183⟩
          have c_185 := c_147.trans c_179 (fun i hi hy => absurd (f_151.base_le i hy) (by omega))
          have z_186 := c_185.size
          have f_187 := f_152.chg c_179 (fun hk => f_151.ne_ty f_152 (by decide) _ hk rfl)
          refine K.RW.q rfl rfl (K.QR.k (v := .slice r_176 m_177 cc_178) (by kernel_rfl)) ?_
          refine K.RW.nil ?_
          refine K.thn_normal ?_
          refine K.KW.seq ?_
          refine K.KW.seq ?_
          -- region 17 ref.go:58
          refine K.KW.region ?_
          refine K.RW.q rfl rfl (K.QR.k (v := .int .i64 0) (by kernel_rfl)) ?_
          refine K.RW.nil ?_
          refine K.thn_normal ?_
          refine K.KW.block ?_
          refine K.KW.loop (fun m_ F_ w_188 => ∃ (t : Nat) (zr : Option Addr) (zm : Nat) (zc : Nat), m_ = (c.th - (t : Nat) : Int).toNat ∧ K.Sl F_ [(0, .agg #[.int .i64 c.th, .int .i64 c.sl, .int .i64 c.lo, .int .i64 c.bu]), (1, .pointer (some ⟨r_2, 0, none⟩)), (2, .slice none 0 0), (3, .slice zr zm zc), (6, .int .i64 ((t : Nat) : Int))] ∧ ((t : Nat) : Int) ≤ c.th ∧ (thT c t).length = zm ∧ zm ≤ 112 + 8 * t ∧ zm % 8 = 0 ∧ K.Chg K.No w0 w_188 ∧ K.Own w_188 w0.heap.size 81 3 zr zm zc ((thT c t).flatMap cNm) ∧ K.Blk w_188 r_2 63 [.int .i64 c.th, .int .i64 c.sl, .int .i64 c.lo, .int .i64 c.bu]) ((fun (t : Nat) (zr : Option Addr) (zm : Nat) (zc : Nat) => (c.th - (t : Nat) : Int).toNat) 0 r_176 m_177 cc_178) ?_ ?_
          · -- the loop begins
            exact ⟨0, r_176, m_177, cc_178, rfl, ⟨by rfl, by rfl, by rfl, by rfl, by rfl, trivial⟩, (by omega), (by exact (by have h := ln_181; rw [show j = c.bu.toNat by omega] at h; exact h)), (by omega), (by omega), c_185, (by have h := o_180; rw [show j = c.bu.toNat by omega] at h; exact h), f_187⟩
          · -- a round
            intro m_190 F_191 w_188 hI
            obtain ⟨t, zr, zm, zc, rfl, sl_192, p_194, p_195, p_196, p_197, c_193, f_198, f_199⟩ := hI
            rw [← K.Sl.puts sl_192]; clear sl_192
            have z_200 := c_193.size
            refine K.KW.seq ?_
            refine K.KW.seq ?_
            -- region 18 ref.go:58
            refine K.KW.region ?_
            refine K.RW.q rfl rfl (K.QR.k (v := .int .i64 ((t : Nat) : Int)) (by kernel_rfl)) ?_
            refine K.RW.q rfl rfl (K.QR.k (v := .pointer (some ⟨r_2, 0, none⟩)) (by kernel_rfl)) ?_
            refine K.RW.q rfl rfl (K.QR.ld1 (v := .int .i64 c.th) rfl rfl (by kernel_rfl) (f_199.cell rfl)) ?_
            by_cases h_201 : (((t : Nat) : Int) : Int) < (c.th : Int)
            ·  -- yes
              refine K.RW.q rfl rfl (K.QR.nice (v := .bool (decide ((((t : Nat) : Int) : Int) < (c.th : Int)))) (by kernel_rfl) (congrArg Value.bool (decide_eq_true h_201))) ?_
              refine K.RW.nil ?_
              refine K.thn_normal ?_
              refine K.KW.ifT rfl ?_
              refine K.KW.skip ?_
              refine K.thn_normal ?_
              refine K.KW.seq ?_
              refine K.KW.block ?_
              refine K.KW.seq ?_
              -- region 20 ref.go:59
              refine K.KW.region ?_
              refine K.RW.q rfl rfl (K.QR.k (v := .slice zr zm zc) (by kernel_rfl)) ?_
              refine K.RW.q rfl rfl (K.QR.k (v := .int .i64 ((t : Nat) : Int)) (by kernel_rfl)) ?_
              refine K.RW.q rfl rfl (K.QR.bd [(0, .int .i64 6), (1, .int .i64 ((t : Nat) : Int))] [.int .i64 6, .int .i64 ((t : Nat) : Int), .int .i64 0] rfl rfl (by kernel_rfl)) ?_
              refine K.RW.l rfl (K.OW.bs rfl [(0, .agg #[.int .i64 6, .int .i64 ((t : Nat) : Int), .int .i64 0])] [.int .i64 6, .int .i64 ((t : Nat) : Int), .int .i64 0] rfl rfl (fun w => K.bs_run (P := Try.prog) w 68 81 1 _ _ Try.underlying68 (by kernel_rfl)) ?_) 
              intro w_202 r_203 hr_204 e_205 hs_206 b_207
              have c_208 := c_193.no e_205
              have z_209 := c_208.size
              have f_210 := f_198.no e_205
              have f_211 := f_199.no e_205
              have ap_212 : ∀ k, K.Ow zr k → ¬ k = r_203 := fun k hk he => absurd (f_198.lt k hk) (by omega)
              refine K.RW.l rfl (K.OW.app2 (P := Try.prog) (xs := ((thT c t)).flatMap cNm) (z := .agg #[.int .i64 0, .int .i64 0, .int .i64 0]) (size := 3) (bytes := 24) rfl [.int .i64 6, .int .i64 ((t : Nat) : Int), .int .i64 0] rfl rfl f_210 rfl Try.underlying68 (by kernel_rfl) rfl (by decide) (by rfl) (fun j u hj => (by rw [Nat.zero_add]; exact b_207.cell hj)) (K.one_cells (by rfl)) (by unfold maxLen; omega) (by omega) (by omega) ?_) 
              intro a_213 cap_214 w_215 e_216 o_217 hk_218
              have c_219 := c_208.trans e_216 (fun i hi hy => absurd (f_210.base_le i hy) (by omega))
              have z_220 := c_219.size
              have f_221 := f_211.chg e_216 (fun hk => f_210.ne_ty f_211 (by decide) _ hk rfl)
              have o_217t := K.Own.snoc (c := cNm) (L := (thT c t)) (⟨6, ((t : Nat) : Int), 0⟩ : Nm) rfl o_217
              have ln_222 : (((thT c t) ++ [(⟨6, ((t : Nat) : Int), 0⟩ : Nm)])).length = zm + 1 := by rw [List.length_append, p_195]; rfl
              refine K.RW.q rfl rfl (K.QR.k (v := .slice a_213 (zm + 1) cap_214) (by kernel_rfl)) ?_
              refine K.RW.nil ?_
              refine K.thn_normal ?_
              refine K.KW.seq ?_
              -- region 21 ref.go:60
              refine K.KW.region ?_
              refine K.RW.q rfl rfl (K.QR.k (v := .slice a_213 (zm + 1) cap_214) (by kernel_rfl)) ?_
              refine K.RW.q rfl rfl (K.QR.k (v := .int .i64 ((t : Nat) : Int)) (by kernel_rfl)) ?_
              refine K.RW.q rfl rfl (K.QR.bd [(0, .int .i64 7), (1, .int .i64 ((t : Nat) : Int))] [.int .i64 7, .int .i64 ((t : Nat) : Int), .int .i64 0] rfl rfl (by kernel_rfl)) ?_
              refine K.RW.l rfl (K.OW.bs rfl [(0, .agg #[.int .i64 7, .int .i64 ((t : Nat) : Int), .int .i64 0])] [.int .i64 7, .int .i64 ((t : Nat) : Int), .int .i64 0] rfl rfl (fun w => K.bs_run (P := Try.prog) w 68 81 1 _ _ Try.underlying68 (by kernel_rfl)) ?_) 
              intro w_223 r_224 hr_225 e_226 hs_227 b_228
              have c_229 := c_219.no e_226
              have z_230 := c_229.size
              have f_231 := f_221.no e_226
              have f_232 := o_217t.no e_226
              have ap_233 : ∀ k, K.Ow a_213 k → ¬ k = r_224 := fun k hk he => absurd (o_217t.lt k hk) (by omega)
              refine K.RW.l rfl (K.OW.app2 (P := Try.prog) (xs := (((thT c t) ++ [(⟨6, ((t : Nat) : Int), 0⟩ : Nm)])).flatMap cNm) (z := .agg #[.int .i64 0, .int .i64 0, .int .i64 0]) (size := 3) (bytes := 24) rfl [.int .i64 7, .int .i64 ((t : Nat) : Int), .int .i64 0] rfl rfl f_232 rfl Try.underlying68 (by kernel_rfl) rfl (by decide) (by rfl) (fun j u hj => (by rw [Nat.zero_add]; exact b_228.cell hj)) (K.one_cells (by rfl)) (by unfold maxLen; omega) (by omega) (by omega) ?_) 
              intro a_234 cap_235 w_236 e_237 o_238 hk_239
              have c_240 := c_229.trans e_237 (fun i hi hy => absurd (f_232.base_le i hy) (by omega))
              have z_241 := c_240.size
              have f_242 := f_231.chg e_237 (fun hk => f_232.ne_ty f_231 (by decide) _ hk rfl)
              have o_238t := K.Own.snoc (c := cNm) (L := ((thT c t) ++ [(⟨6, ((t : Nat) : Int), 0⟩ : Nm)])) (⟨7, ((t : Nat) : Int), 0⟩ : Nm) rfl o_238
              have ln_243 : ((((thT c t) ++ [(⟨6, ((t : Nat) : Int), 0⟩ : Nm)]) ++ [(⟨7, ((t : Nat) : Int), 0⟩ : Nm)])).length = zm + 1 + 1 := by rw [List.length_append, ln_222]; rfl
              refine K.RW.q rfl rfl (K.QR.k (v := .slice a_234 (zm + 1 + 1) cap_235) (by kernel_rfl)) ?_
              refine K.RW.nil ?_
              refine K.thn_normal ?_
              -- region 22 ref.go:61
              refine K.KW.region ?_
              refine K.RW.q rfl rfl (K.QR.k (v := .slice a_234 (zm + 1 + 1) cap_235) (by kernel_rfl)) ?_
              refine K.RW.l rfl (K.OW.call rfl [.slice a_234 (zm + 1 + 1) cap_235] rfl rfl (by kernel_rfl) (fill_ok w0.heap.size a_234 (zm + 1 + 1) cap_235 (((thT c t) ++ [(⟨6, ((t : Nat) : Int), 0⟩ : Nm)]) ++ [(⟨7, ((t : Nat) : Int), 0⟩ : Nm)]) _ (by omega) ln_243 (by omega) o_238t) ?_) 
              rintro _ w_252 ⟨r_244, m_245, cc_246, rfl, c_247, o_248, ln_249, hm_250, hr_251⟩
              have c_253 := c_240.trans c_247 (fun i hi hy => absurd (o_238t.base_le i hy) (by omega))
              have z_254 := c_253.size
              have f_255 := f_242.chg c_247 (fun hk => o_238t.ne_ty f_242 (by decide) _ hk rfl)
              refine K.RW.q rfl rfl (K.QR.k (v := .slice r_244 m_245 cc_246) (by kernel_rfl)) ?_
              refine K.RW.nil ?_
              refine K.blk_normal ?_
              refine K.thn_normal ?_
              -- region 19 ref.go:58
              refine K.KW.region ?_
              refine K.RW.q rfl rfl (K.QR.k (v := .int .i64 ((t : Nat) : Int)) (by kernel_rfl)) ?_
              refine K.RW.q rfl rfl (K.QR.n64 ((((t : Nat) : Int) : Int) + (1 : Int)) ((t + 1 : Nat) : Int) (by kernel_rfl) (by omega)) ?_
              refine K.RW.q rfl rfl (K.QR.k (v := .int .i64 ((t + 1 : Nat) : Int)) (by kernel_rfl)) ?_
              refine K.RW.nil ?_
              refine K.thn_normal ?_
              refine ⟨_, ?_, t + 1, r_244, m_245, cc_246, rfl, ⟨by rfl, by rfl, by rfl, by rfl, by rfl, trivial⟩, (by omega), (by exact ln_249), (by omega), (by omega), c_253, o_248, f_255⟩
              omega
            ·  -- no
              refine K.RW.q rfl rfl (K.QR.nice (v := .bool (decide ((((t : Nat) : Int) : Int) < (c.th : Int)))) (by kernel_rfl) (congrArg Value.bool (decide_eq_false h_201))) ?_
              refine K.RW.nil ?_
              refine K.thn_normal ?_
              refine K.KW.ifF rfl ?_
              refine K.KW.exit ?_
              refine K.thn_exit ?_
              refine K.thn_exit ?_
              refine K.blk_hit ?_
              refine K.thn_normal ?_
              refine K.KW.seq ?_
              refine K.KW.seq ?_
              -- region 23 ref.go:63
              refine K.KW.region ?_
              refine K.RW.q rfl rfl (K.QR.k (v := .int .i64 0) (by kernel_rfl)) ?_
              refine K.RW.nil ?_
              refine K.thn_normal ?_
              refine K.KW.block ?_
              refine K.KW.loop (fun m_ F_ w_256 => ∃ (u : Nat) (pr : Option Addr) (pm : Nat) (pc : Nat), m_ = (c.th - (u : Nat) : Int).toNat ∧ K.Sl F_ [(0, .agg #[.int .i64 c.th, .int .i64 c.sl, .int .i64 c.lo, .int .i64 c.bu]), (1, .pointer (some ⟨r_2, 0, none⟩)), (2, .slice none 0 0), (3, .slice pr pm pc), (7, .int .i64 ((u : Nat) : Int))] ∧ ((u : Nat) : Int) ≤ c.th ∧ (lgT c u).length = pm ∧ pm ≤ 624 + 72 * u ∧ pm % 8 = 0 ∧ K.Chg K.No w0 w_256 ∧ K.Own w_256 w0.heap.size 81 3 pr pm pc ((lgT c u).flatMap cNm) ∧ K.Blk w_256 r_2 63 [.int .i64 c.th, .int .i64 c.sl, .int .i64 c.lo, .int .i64 c.bu]) ((fun (u : Nat) (pr : Option Addr) (pm : Nat) (pc : Nat) => (c.th - (u : Nat) : Int).toNat) 0 zr zm zc) ?_ ?_
              · -- the loop begins
                exact ⟨0, zr, zm, zc, rfl, ⟨by rfl, by rfl, by rfl, by rfl, by rfl, trivial⟩, (by omega), (by exact (by have h := p_195; rw [show t = c.th.toNat by omega] at h; exact h)), (by omega), (by omega), c_193, (by have h := f_198; rw [show t = c.th.toNat by omega] at h; exact h), f_199⟩
              · -- a round
                intro m_258 F_259 w_256 hI
                obtain ⟨u, pr, pm, pc, rfl, sl_260, p_262, p_263, p_264, p_265, c_261, f_266, f_267⟩ := hI
                rw [← K.Sl.puts sl_260]; clear sl_260
                have z_268 := c_261.size
                refine K.KW.seq ?_
                refine K.KW.seq ?_
                -- region 24 ref.go:63
                refine K.KW.region ?_
                refine K.RW.q rfl rfl (K.QR.k (v := .int .i64 ((u : Nat) : Int)) (by kernel_rfl)) ?_
                refine K.RW.q rfl rfl (K.QR.k (v := .pointer (some ⟨r_2, 0, none⟩)) (by kernel_rfl)) ?_
                refine K.RW.q rfl rfl (K.QR.ld1 (v := .int .i64 c.th) rfl rfl (by kernel_rfl) (f_267.cell rfl)) ?_
                by_cases h_269 : (((u : Nat) : Int) : Int) < (c.th : Int)
                ·  -- yes
                  refine K.RW.q rfl rfl (K.QR.nice (v := .bool (decide ((((u : Nat) : Int) : Int) < (c.th : Int)))) (by kernel_rfl) (congrArg Value.bool (decide_eq_true h_269))) ?_
                  refine K.RW.nil ?_
                  refine K.thn_normal ?_
                  refine K.KW.ifT rfl ?_
                  refine K.KW.skip ?_
                  refine K.thn_normal ?_
                  refine K.KW.seq ?_
                  refine K.KW.block ?_
                  refine K.KW.seq ?_
                  refine K.KW.seq ?_
                  -- region 26 ref.go:64
                  refine K.KW.region ?_
                  refine K.RW.q rfl rfl (K.QR.k (v := .int .i64 0) (by kernel_rfl)) ?_
                  refine K.RW.nil ?_
                  refine K.thn_normal ?_
                  refine K.KW.block ?_
                  refine K.KW.loop (fun m_ F_ w_270 => ∃ (v : Nat) (qr : Option Addr) (qm : Nat) (qc : Nat), m_ = (c.lo - (v : Nat) : Int).toNat ∧ K.Sl F_ [(0, .agg #[.int .i64 c.th, .int .i64 c.sl, .int .i64 c.lo, .int .i64 c.bu]), (1, .pointer (some ⟨r_2, 0, none⟩)), (2, .slice none 0 0), (3, .slice qr qm qc), (7, .int .i64 ((u : Nat) : Int)), (8, .int .i64 ((v : Nat) : Int))] ∧ ((v : Nat) : Int) ≤ c.lo ∧ (lgI (lgT c u) u v).length = qm ∧ qm = pm + v ∧ K.Chg K.No w0 w_270 ∧ K.Own w_270 w0.heap.size 81 3 qr qm qc ((lgI (lgT c u) u v).flatMap cNm) ∧ K.Blk w_270 r_2 63 [.int .i64 c.th, .int .i64 c.sl, .int .i64 c.lo, .int .i64 c.bu]) ((fun (v : Nat) (qr : Option Addr) (qm : Nat) (qc : Nat) => (c.lo - (v : Nat) : Int).toNat) 0 pr pm pc) ?_ ?_
                  · -- the loop begins
                    exact ⟨0, pr, pm, pc, rfl, ⟨by rfl, by rfl, by rfl, by rfl, by rfl, by rfl, trivial⟩, (by omega), (by exact p_263), (by omega), c_261, f_266, f_267⟩
                  · -- a round
                    intro m_272 F_273 w_270 hI
                    obtain ⟨v, qr, qm, qc, rfl, sl_274, p_276, p_277, p_278, c_275, f_279, f_280⟩ := hI
                    rw [← K.Sl.puts sl_274]; clear sl_274
                    have z_281 := c_275.size
                    refine K.KW.seq ?_
                    refine K.KW.seq ?_
                    -- region 27 ref.go:64
                    refine K.KW.region ?_
                    refine K.RW.q rfl rfl (K.QR.k (v := .int .i64 ((v : Nat) : Int)) (by kernel_rfl)) ?_
                    refine K.RW.q rfl rfl (K.QR.k (v := .pointer (some ⟨r_2, 2, none⟩)) (by kernel_rfl)) ?_
                    refine K.RW.q rfl rfl (K.QR.ld1 (v := .int .i64 c.lo) rfl rfl (by kernel_rfl) (f_280.cell rfl)) ?_
                    by_cases h_282 : (((v : Nat) : Int) : Int) < (c.lo : Int)
                    ·  -- yes
                      refine K.RW.q rfl rfl (K.QR.nice (v := .bool (decide ((((v : Nat) : Int) : Int) < (c.lo : Int)))) (by kernel_rfl) (congrArg Value.bool (decide_eq_true h_282))) ?_
                      refine K.RW.nil ?_
                      refine K.thn_normal ?_
                      refine K.KW.ifT rfl ?_
                      refine K.KW.skip ?_
                      refine K.thn_normal ?_
                      refine K.KW.seq ?_
                      refine K.KW.block ?_
                      -- region 29 ref.go:65
                      refine K.KW.region ?_
                      refine K.RW.q rfl rfl (K.QR.k (v := .slice qr qm qc) (by kernel_rfl)) ?_
                      refine K.RW.q rfl rfl (K.QR.k (v := .int .i64 ((u : Nat) : Int)) (by kernel_rfl)) ?_
                      refine K.RW.q rfl rfl (K.QR.k (v := .int .i64 ((v : Nat) : Int)) (by kernel_rfl)) ?_
                      refine K.RW.q rfl rfl (K.QR.bd [(0, .int .i64 8), (1, .int .i64 ((u : Nat) : Int)), (2, .int .i64 ((v : Nat) : Int))] [.int .i64 8, .int .i64 ((u : Nat) : Int), .int .i64 ((v : Nat) : Int)] rfl rfl (by kernel_rfl)) ?_
                      refine K.RW.l rfl (K.OW.bs rfl [(0, .agg #[.int .i64 8, .int .i64 ((u : Nat) : Int), .int .i64 ((v : Nat) : Int)])] [.int .i64 8, .int .i64 ((u : Nat) : Int), .int .i64 ((v : Nat) : Int)] rfl rfl (fun w => K.bs_run (P := Try.prog) w 68 81 1 _ _ Try.underlying68 (by kernel_rfl)) ?_) 
                      intro w_283 r_284 hr_285 e_286 hs_287 b_288
                      have c_289 := c_275.no e_286
                      have z_290 := c_289.size
                      have f_291 := f_279.no e_286
                      have f_292 := f_280.no e_286
                      have ap_293 : ∀ k, K.Ow qr k → ¬ k = r_284 := fun k hk he => absurd (f_279.lt k hk) (by omega)
                      refine K.RW.l rfl (K.OW.app2 (P := Try.prog) (xs := ((lgI (lgT c u) u v)).flatMap cNm) (z := .agg #[.int .i64 0, .int .i64 0, .int .i64 0]) (size := 3) (bytes := 24) rfl [.int .i64 8, .int .i64 ((u : Nat) : Int), .int .i64 ((v : Nat) : Int)] rfl rfl f_291 rfl Try.underlying68 (by kernel_rfl) rfl (by decide) (by rfl) (fun j u hj => (by rw [Nat.zero_add]; exact b_288.cell hj)) (K.one_cells (by rfl)) (by unfold maxLen; omega) (by omega) (by omega) ?_) 
                      intro a_294 cap_295 w_296 e_297 o_298 hk_299
                      have c_300 := c_289.trans e_297 (fun i hi hy => absurd (f_291.base_le i hy) (by omega))
                      have z_301 := c_300.size
                      have f_302 := f_292.chg e_297 (fun hk => f_291.ne_ty f_292 (by decide) _ hk rfl)
                      have o_298t := K.Own.snoc (c := cNm) (L := (lgI (lgT c u) u v)) (⟨8, ((u : Nat) : Int), ((v : Nat) : Int)⟩ : Nm) rfl o_298
                      have ln_303 : (((lgI (lgT c u) u v) ++ [(⟨8, ((u : Nat) : Int), ((v : Nat) : Int)⟩ : Nm)])).length = qm + 1 := by rw [List.length_append, p_277]; rfl
                      refine K.RW.q rfl rfl (K.QR.k (v := .slice a_294 (qm + 1) cap_295) (by kernel_rfl)) ?_
                      refine K.RW.nil ?_
                      refine K.blk_normal ?_
                      refine K.thn_normal ?_
                      -- region 28 ref.go:64
                      refine K.KW.region ?_
                      refine K.RW.q rfl rfl (K.QR.k (v := .int .i64 ((v : Nat) : Int)) (by kernel_rfl)) ?_
                      refine K.RW.q rfl rfl (K.QR.n64 ((((v : Nat) : Int) : Int) + (1 : Int)) ((v + 1 : Nat) : Int) (by kernel_rfl) (by omega)) ?_
                      refine K.RW.q rfl rfl (K.QR.k (v := .int .i64 ((v + 1 : Nat) : Int)) (by kernel_rfl)) ?_
                      refine K.RW.nil ?_
                      refine K.thn_normal ?_
                      refine ⟨_, ?_, v + 1, a_294, qm + 1, cap_295, rfl, ⟨by rfl, by rfl, by rfl, by rfl, by rfl, by rfl, trivial⟩, (by omega), (by exact ln_303), (by omega), c_300, o_298t, f_302⟩
                      omega
                    ·  -- no
                      refine K.RW.q rfl rfl (K.QR.nice (v := .bool (decide ((((v : Nat) : Int) : Int) < (c.lo : Int)))) (by kernel_rfl) (congrArg Value.bool (decide_eq_false h_282))) ?_
                      refine K.RW.nil ?_
                      refine K.thn_normal ?_
                      refine K.KW.ifF rfl ?_
                      refine K.KW.exit ?_
                      refine K.thn_exit ?_
                      refine K.thn_exit ?_
                      refine K.blk_hit ?_
                      refine K.thn_normal ?_
                      -- region 30 ref.go:67
                      refine K.KW.region ?_
                      refine K.RW.q rfl rfl (K.QR.k (v := .slice qr qm qc) (by kernel_rfl)) ?_
                      refine K.RW.l rfl (K.OW.call rfl [.slice qr qm qc] rfl rfl (by kernel_rfl) (fill_ok w0.heap.size qr qm qc (lgI (lgT c u) u v) _ (by omega) p_277 (by omega) f_279) ?_) 
                      rintro _ w_312 ⟨r_304, m_305, cc_306, rfl, c_307, o_308, ln_309, hm_310, hr_311⟩
                      have c_313 := c_275.trans c_307 (fun i hi hy => absurd (f_279.base_le i hy) (by omega))
                      have z_314 := c_313.size
                      have f_315 := f_280.chg c_307 (fun hk => f_279.ne_ty f_280 (by decide) _ hk rfl)
                      refine K.RW.q rfl rfl (K.QR.k (v := .slice r_304 m_305 cc_306) (by kernel_rfl)) ?_
                      refine K.RW.nil ?_
                      refine K.blk_normal ?_
                      refine K.thn_normal ?_
                      -- region 25 ref.go:63
                      refine K.KW.region ?_
                      refine K.RW.q rfl rfl (K.QR.k (v := .int .i64 ((u : Nat) : Int)) (by kernel_rfl)) ?_
                      refine K.RW.q rfl rfl (K.QR.n64 ((((u : Nat) : Int) : Int) + (1 : Int)) ((u + 1 : Nat) : Int) (by kernel_rfl) (by omega)) ?_
                      refine K.RW.q rfl rfl (K.QR.k (v := .int .i64 ((u + 1 : Nat) : Int)) (by kernel_rfl)) ?_
                      refine K.RW.nil ?_
                      refine K.thn_normal ?_
                      refine ⟨_, ?_, u + 1, r_304, m_305, cc_306, rfl, ⟨by rfl, by rfl, by rfl, by rfl, by rfl, trivial⟩, (by omega), (by exact (by have h := ln_309; rw [show v = c.lo.toNat by omega] at h; exact h)), (by omega), (by omega), c_313, (by have h := o_308; rw [show v = c.lo.toNat by omega] at h; exact h), f_315⟩
                      omega
                ·  -- no
                  refine K.RW.q rfl rfl (K.QR.nice (v := .bool (decide ((((u : Nat) : Int) : Int) < (c.th : Int)))) (by kernel_rfl) (congrArg Value.bool (decide_eq_false h_269))) ?_
                  refine K.RW.nil ?_
                  refine K.thn_normal ?_
                  refine K.KW.ifF rfl ?_
                  refine K.KW.exit ?_
                  refine K.thn_exit ?_
                  refine K.thn_exit ?_
                  refine K.blk_hit ?_
                  refine K.thn_normal ?_
                  refine K.KW.seq ?_
                  refine K.KW.seq ?_
                  -- region 31 ref.go:69
                  refine K.KW.region ?_
                  refine K.RW.q rfl rfl (K.QR.k (v := .int .i64 0) (by kernel_rfl)) ?_
                  refine K.RW.nil ?_
                  refine K.thn_normal ?_
                  refine K.KW.block ?_
                  refine K.KW.loop (fun m_ F_ w_316 => ∃ (s : Nat) (er : Option Addr) (em : Nat) (ec : Nat), m_ = (c.sl - (s : Nat) : Int).toNat ∧ K.Sl F_ [(0, .agg #[.int .i64 c.th, .int .i64 c.sl, .int .i64 c.lo, .int .i64 c.bu]), (1, .pointer (some ⟨r_2, 0, none⟩)), (2, .slice none 0 0), (3, .slice er em ec), (9, .int .i64 ((s : Nat) : Int))] ∧ ((s : Nat) : Int) ≤ c.sl ∧ (slT c s).length = em ∧ em ≤ 5300 + 8 * s ∧ em % 8 = 0 ∧ K.Chg K.No w0 w_316 ∧ K.Own w_316 w0.heap.size 81 3 er em ec ((slT c s).flatMap cNm) ∧ K.Blk w_316 r_2 63 [.int .i64 c.th, .int .i64 c.sl, .int .i64 c.lo, .int .i64 c.bu]) ((fun (s : Nat) (er : Option Addr) (em : Nat) (ec : Nat) => (c.sl - (s : Nat) : Int).toNat) 0 pr pm pc) ?_ ?_
                  · -- the loop begins
                    exact ⟨0, pr, pm, pc, rfl, ⟨by rfl, by rfl, by rfl, by rfl, by rfl, trivial⟩, (by omega), (by exact (by have h := p_263; rw [show u = c.th.toNat by omega] at h; exact h)), (by omega), (by omega), c_261, (by have h := f_266; rw [show u = c.th.toNat by omega] at h; exact h), f_267⟩
                  · -- a round
                    intro m_318 F_319 w_316 hI
                    obtain ⟨s, er, em, ec, rfl, sl_320, p_322, p_323, p_324, p_325, c_321, f_326, f_327⟩ := hI
                    rw [← K.Sl.puts sl_320]; clear sl_320
                    have z_328 := c_321.size
                    refine K.KW.seq ?_
                    refine K.KW.seq ?_
                    -- region 32 ref.go:69
                    refine K.KW.region ?_
                    refine K.RW.q rfl rfl (K.QR.k (v := .int .i64 ((s : Nat) : Int)) (by kernel_rfl)) ?_
                    refine K.RW.q rfl rfl (K.QR.k (v := .pointer (some ⟨r_2, 1, none⟩)) (by kernel_rfl)) ?_
                    refine K.RW.q rfl rfl (K.QR.ld1 (v := .int .i64 c.sl) rfl rfl (by kernel_rfl) (f_327.cell rfl)) ?_
                    by_cases h_329 : (((s : Nat) : Int) : Int) < (c.sl : Int)
                    ·  -- yes
                      refine K.RW.q rfl rfl (K.QR.nice (v := .bool (decide ((((s : Nat) : Int) : Int) < (c.sl : Int)))) (by kernel_rfl) (congrArg Value.bool (decide_eq_true h_329))) ?_
                      refine K.RW.nil ?_
                      refine K.thn_normal ?_
                      refine K.KW.ifT rfl ?_
                      refine K.KW.skip ?_
                      refine K.thn_normal ?_
                      refine K.KW.seq ?_
                      refine K.KW.block ?_
                      refine K.KW.seq ?_
                      refine K.KW.seq ?_
                      -- region 34 ref.go:70
                      refine K.KW.region ?_
                      refine K.RW.q rfl rfl (K.QR.k (v := .int .i64 9) (by kernel_rfl)) ?_
                      refine K.RW.nil ?_
                      refine K.thn_normal ?_
                      refine K.KW.block ?_
                      refine K.KW.loop (fun m_ F_ w_330 => ∃ (k : Nat) (fr : Option Addr) (fm : Nat) (fc : Nat), m_ = (5 - (k : Nat) : Int).toNat ∧ K.Sl F_ [(0, .agg #[.int .i64 c.th, .int .i64 c.sl, .int .i64 c.lo, .int .i64 c.bu]), (1, .pointer (some ⟨r_2, 0, none⟩)), (2, .slice none 0 0), (3, .slice fr fm fc), (9, .int .i64 ((s : Nat) : Int)), (10, .int .i64 ((9 + k : Nat) : Int))] ∧ ((k : Nat) : Int) ≤ 5 ∧ (slI (slT c s) s k).length = fm ∧ fm = em + k ∧ K.Chg K.No w0 w_330 ∧ K.Own w_330 w0.heap.size 81 3 fr fm fc ((slI (slT c s) s k).flatMap cNm) ∧ K.Blk w_330 r_2 63 [.int .i64 c.th, .int .i64 c.sl, .int .i64 c.lo, .int .i64 c.bu]) ((fun (k : Nat) (fr : Option Addr) (fm : Nat) (fc : Nat) => (5 - (k : Nat) : Int).toNat) 0 er em ec) ?_ ?_
                      · -- the loop begins
                        exact ⟨0, er, em, ec, rfl, ⟨by rfl, by rfl, by rfl, by rfl, by rfl, by rfl, trivial⟩, (by omega), (by exact p_323), (by omega), c_321, f_326, f_327⟩
                      · -- a round
                        intro m_332 F_333 w_330 hI
                        obtain ⟨k, fr, fm, fc, rfl, sl_334, p_336, p_337, p_338, c_335, f_339, f_340⟩ := hI
                        rw [← K.Sl.puts sl_334]; clear sl_334
                        have z_341 := c_335.size
                        refine K.KW.seq ?_
                        refine K.KW.seq ?_
                        -- region 35 ref.go:70
                        refine K.KW.region ?_
                        refine K.RW.q rfl rfl (K.QR.k (v := .int .i64 ((9 + k : Nat) : Int)) (by kernel_rfl)) ?_
                        by_cases h_342 : (((9 + k : Nat) : Int) : Int) ≤ (13 : Int)
                        ·  -- yes
                          refine K.RW.q rfl rfl (K.QR.nice (v := .bool (decide ((((9 + k : Nat) : Int) : Int) ≤ (13 : Int)))) (by kernel_rfl) (congrArg Value.bool (decide_eq_true h_342))) ?_
                          refine K.RW.nil ?_
                          refine K.thn_normal ?_
                          refine K.KW.ifT rfl ?_
                          refine K.KW.skip ?_
                          refine K.thn_normal ?_
                          refine K.KW.seq ?_
                          refine K.KW.block ?_
                          -- region 37 ref.go:71
                          refine K.KW.region ?_
                          refine K.RW.q rfl rfl (K.QR.k (v := .slice fr fm fc) (by kernel_rfl)) ?_
                          refine K.RW.q rfl rfl (K.QR.k (v := .int .i64 ((9 + k : Nat) : Int)) (by kernel_rfl)) ?_
                          refine K.RW.q rfl rfl (K.QR.k (v := .int .i64 ((s : Nat) : Int)) (by kernel_rfl)) ?_
                          refine K.RW.q rfl rfl (K.QR.bd [(0, .int .i64 ((9 + k : Nat) : Int)), (1, .int .i64 ((s : Nat) : Int))] [.int .i64 ((9 + k : Nat) : Int), .int .i64 ((s : Nat) : Int), .int .i64 0] rfl rfl (by kernel_rfl)) ?_
                          refine K.RW.l rfl (K.OW.bs rfl [(0, .agg #[.int .i64 ((9 + k : Nat) : Int), .int .i64 ((s : Nat) : Int), .int .i64 0])] [.int .i64 ((9 + k : Nat) : Int), .int .i64 ((s : Nat) : Int), .int .i64 0] rfl rfl (fun w => K.bs_run (P := Try.prog) w 68 81 1 _ _ Try.underlying68 (by kernel_rfl)) ?_) 
                          intro w_343 r_344 hr_345 e_346 hs_347 b_348
                          have c_349 := c_335.no e_346
                          have z_350 := c_349.size
                          have f_351 := f_339.no e_346
                          have f_352 := f_340.no e_346
                          have ap_353 : ∀ k, K.Ow fr k → ¬ k = r_344 := fun k hk he => absurd (f_339.lt k hk) (by omega)
                          refine K.RW.l rfl (K.OW.app2 (P := Try.prog) (xs := ((slI (slT c s) s k)).flatMap cNm) (z := .agg #[.int .i64 0, .int .i64 0, .int .i64 0]) (size := 3) (bytes := 24) rfl [.int .i64 ((9 + k : Nat) : Int), .int .i64 ((s : Nat) : Int), .int .i64 0] rfl rfl f_351 rfl Try.underlying68 (by kernel_rfl) rfl (by decide) (by rfl) (fun j u hj => (by rw [Nat.zero_add]; exact b_348.cell hj)) (K.one_cells (by rfl)) (by unfold maxLen; omega) (by omega) (by omega) ?_) 
                          intro a_354 cap_355 w_356 e_357 o_358 hk_359
                          have c_360 := c_349.trans e_357 (fun i hi hy => absurd (f_351.base_le i hy) (by omega))
                          have z_361 := c_360.size
                          have f_362 := f_352.chg e_357 (fun hk => f_351.ne_ty f_352 (by decide) _ hk rfl)
                          have o_358t := K.Own.snoc (c := cNm) (L := (slI (slT c s) s k)) (⟨((9 + k : Nat) : Int), ((s : Nat) : Int), 0⟩ : Nm) rfl o_358
                          have ln_363 : (((slI (slT c s) s k) ++ [(⟨((9 + k : Nat) : Int), ((s : Nat) : Int), 0⟩ : Nm)])).length = fm + 1 := by rw [List.length_append, p_337]; rfl
                          refine K.RW.q rfl rfl (K.QR.k (v := .slice a_354 (fm + 1) cap_355) (by kernel_rfl)) ?_
                          refine K.RW.nil ?_
                          refine K.blk_normal ?_
                          refine K.thn_normal ?_
                          -- region 36 ref.go:70
                          refine K.KW.region ?_
                          refine K.RW.q rfl rfl (K.QR.k (v := .int .i64 ((9 + k : Nat) : Int)) (by kernel_rfl)) ?_
                          refine K.RW.q rfl rfl (K.QR.n64 ((((9 + k : Nat) : Int) : Int) + (1 : Int)) ((9 + k + 1 : Nat) : Int) (by kernel_rfl) (by omega)) ?_
                          refine K.RW.q rfl rfl (K.QR.k (v := .int .i64 ((9 + k + 1 : Nat) : Int)) (by kernel_rfl)) ?_
                          refine K.RW.nil ?_
                          refine K.thn_normal ?_
                          refine ⟨_, ?_, k + 1, a_354, fm + 1, cap_355, rfl, ⟨by rfl, by rfl, by rfl, by rfl, by rfl, by rfl, trivial⟩, (by omega), (by exact ln_363), (by omega), c_360, o_358t, f_362⟩
                          omega
                        ·  -- no
                          refine K.RW.q rfl rfl (K.QR.nice (v := .bool (decide ((((9 + k : Nat) : Int) : Int) ≤ (13 : Int)))) (by kernel_rfl) (congrArg Value.bool (decide_eq_false h_342))) ?_
                          refine K.RW.nil ?_
                          refine K.thn_normal ?_
                          refine K.KW.ifF rfl ?_
                          refine K.KW.exit ?_
                          refine K.thn_exit ?_
                          refine K.thn_exit ?_
                          refine K.blk_hit ?_
                          refine K.thn_normal ?_
                          -- region 38 ref.go:73
                          refine K.KW.region ?_
                          refine K.RW.q rfl rfl (K.QR.k (v := .slice fr fm fc) (by kernel_rfl)) ?_
                          refine K.RW.l rfl (K.OW.call rfl [.slice fr fm fc] rfl rfl (by kernel_rfl) (fill_ok w0.heap.size fr fm fc (slI (slT c s) s k) _ (by omega) p_337 (by omega) f_339) ?_) 
                          rintro _ w_372 ⟨r_364, m_365, cc_366, rfl, c_367, o_368, ln_369, hm_370, hr_371⟩
                          have c_373 := c_335.trans c_367 (fun i hi hy => absurd (f_339.base_le i hy) (by omega))
                          have z_374 := c_373.size
                          have f_375 := f_340.chg c_367 (fun hk => f_339.ne_ty f_340 (by decide) _ hk rfl)
                          refine K.RW.q rfl rfl (K.QR.k (v := .slice r_364 m_365 cc_366) (by kernel_rfl)) ?_
                          refine K.RW.nil ?_
                          refine K.blk_normal ?_
                          refine K.thn_normal ?_
                          -- region 33 ref.go:69
                          refine K.KW.region ?_
                          refine K.RW.q rfl rfl (K.QR.k (v := .int .i64 ((s : Nat) : Int)) (by kernel_rfl)) ?_
                          refine K.RW.q rfl rfl (K.QR.n64 ((((s : Nat) : Int) : Int) + (1 : Int)) ((s + 1 : Nat) : Int) (by kernel_rfl) (by omega)) ?_
                          refine K.RW.q rfl rfl (K.QR.k (v := .int .i64 ((s + 1 : Nat) : Int)) (by kernel_rfl)) ?_
                          refine K.RW.nil ?_
                          refine K.thn_normal ?_
                          refine ⟨_, ?_, s + 1, r_364, m_365, cc_366, rfl, ⟨by rfl, by rfl, by rfl, by rfl, by rfl, trivial⟩, (by omega), (by exact (by have h := ln_369; rw [show k = 5 by omega] at h; exact h)), (by omega), (by omega), c_373, (by have h := o_368; rw [show k = 5 by omega] at h; exact h), f_375⟩
                          omega
                    ·  -- no
                      refine K.RW.q rfl rfl (K.QR.nice (v := .bool (decide ((((s : Nat) : Int) : Int) < (c.sl : Int)))) (by kernel_rfl) (congrArg Value.bool (decide_eq_false h_329))) ?_
                      refine K.RW.nil ?_
                      refine K.thn_normal ?_
                      refine K.KW.ifF rfl ?_
                      refine K.KW.exit ?_
                      refine K.thn_exit ?_
                      refine K.thn_exit ?_
                      refine K.blk_hit ?_
                      refine K.thn_normal ?_
                      refine K.KW.seq ?_
                      -- region 39 ref.go:75
                      refine K.KW.region ?_
                      refine K.RW.q rfl rfl (K.QR.k (v := .slice er em ec) (by kernel_rfl)) ?_
                      refine K.RW.q rfl rfl (K.QR.k (v := .slice er em ec) (by kernel_rfl)) ?_
                      refine K.RW.nil ?_
                      refine K.thn_normal ?_
                      refine K.KW.ret ?_
                      refine ⟨.inr rfl, (.slice er em ec), K.res1 rfl rfl, ?_⟩
                      exact ⟨_, _, _, rfl, c_321, (by have h := f_326; rw [show s = c.sl.toNat by omega] at h; exact h), (by have h := p_323; rw [show s = c.sl.toNat by omega] at h; exact h)⟩

set_option maxHeartbeats 1000000 in
set_option maxRecDepth 100000 in
theorem passing_ok (c : Cfg) (w0 : World) (hc : cfgOk c) :
    K.KC Try.prog 47 #[.agg #[.int .i64 c.th, .int .i64 c.sl, .int .i64 c.lo, .int .i64 c.bu]] w0 (fun v w' => ∃ r m cc, v = .slice r m cc ∧ K.Chg K.No w0 w' ∧ K.Own w' w0.heap.size 81 3 r m cc ((passing c).flatMap cNm) ∧ (passing c).length = m) := by
  have hcc := hc
  unfold cfgOk at hcc
  refine K.KC.mk (n := 32) Try.func47 rfl rfl [.agg #[.int .i64 c.th, .int .i64 c.sl, .int .i64 c.lo, .int .i64 c.bu]] rfl rfl ?_
  refine K.KW.seq ?_
  -- region 0 ref.go:79
  refine K.KW.region ?_
  refine K.RW.l rfl (K.OW.new (t := 63) rfl (fun r => .pointer (some ⟨r, 0, none⟩)) [.int .i64 c.th, .int .i64 c.sl, .int .i64 c.lo, .int .i64 c.bu] (by kernel_rfl) ?_) 
  intro w_1 r_2 hr_3 e_4 hs_5 b_6
  have c_7 := e_4
  have z_8 := c_7.size
  refine K.RW.q rfl rfl (K.QR.k (v := .slice none 0 0) (by kernel_rfl)) ?_
  refine K.RW.nil ?_
  refine K.thn_normal ?_
  refine K.KW.seq ?_
  -- region 1 ref.go:80
  refine K.KW.region ?_
  refine K.RW.q rfl rfl (K.QR.bd [(0, .int .i64 14)] [.int .i64 14, .int .i64 0, .int .i64 0] rfl rfl (by kernel_rfl)) ?_
  refine K.RW.q rfl rfl (K.QR.bd [(0, .int .i64 15)] [.int .i64 15, .int .i64 0, .int .i64 0] rfl rfl (by kernel_rfl)) ?_
  refine K.RW.l rfl (K.OW.bs rfl [(0, .agg #[.int .i64 14, .int .i64 0, .int .i64 0]), (1, .agg #[.int .i64 15, .int .i64 0, .int .i64 0])] [.int .i64 14, .int .i64 0, .int .i64 0, .int .i64 15, .int .i64 0, .int .i64 0] rfl rfl (fun w => K.bs_run (P := Try.prog) w 68 81 2 _ _ Try.underlying68 (by kernel_rfl)) ?_) 
  intro w_9 r_10 hr_11 e_12 hs_13 b_14
  have c_15 := c_7.no e_12
  have z_16 := c_15.size
  have f_17 := b_6.no e_12
  refine K.RW.q rfl rfl (K.QR.k (v := .slice (some ⟨r_10, 0, none⟩) 2 2) (by kernel_rfl)) ?_
  refine K.RW.nil ?_
  refine K.thn_normal ?_
  refine K.KW.seq ?_
  refine K.KW.seq ?_
  -- region 2 ref.go:81
  refine K.KW.region ?_
  refine K.RW.q rfl rfl (K.QR.k (v := .int .i64 0) (by kernel_rfl)) ?_
  refine K.RW.nil ?_
  refine K.thn_normal ?_
  refine K.KW.block ?_
  refine K.KW.loop (fun m_ F_ w_18 => ∃ (t : Nat) (xr : Option Addr) (xm : Nat) (xc : Nat), m_ = (c.th - (t : Nat) : Int).toNat ∧ K.Sl F_ [(0, .agg #[.int .i64 c.th, .int .i64 c.sl, .int .i64 c.lo, .int .i64 c.bu]), (1, .pointer (some ⟨r_2, 0, none⟩)), (2, .slice none 0 0), (3, .slice xr xm xc), (4, .int .i64 ((t : Nat) : Int))] ∧ ((t : Nat) : Int) ≤ c.th ∧ (psT t).length = xm ∧ xm = 2 + t ∧ K.Chg K.No w0 w_18 ∧ K.Own w_18 w0.heap.size 81 3 xr xm xc ((psT t).flatMap cNm) ∧ K.Blk w_18 r_2 63 [.int .i64 c.th, .int .i64 c.sl, .int .i64 c.lo, .int .i64 c.bu]) ((fun (t : Nat) (xr : Option Addr) (xm : Nat) (xc : Nat) => (c.th - (t : Nat) : Int).toNat) 0 (some ⟨r_10, 0, none⟩) 2 2) ?_ ?_
  · -- the loop begins
    exact ⟨0, (some ⟨r_10, 0, none⟩), 2, 2, rfl, ⟨by rfl, by rfl, by rfl, by rfl, by rfl, trivial⟩, (by omega), (by rfl), (by omega), c_15, (K.Own.of_blkL (base := w0.heap.size) (n := 2) (c := cNm) (L := [⟨14, 0, 0⟩, ⟨15, 0, 0⟩]) b_14 (by omega) rfl (by unfold maxLen; omega) (fun _ => rfl) rfl), f_17⟩
  · -- a round
    intro m_20 F_21 w_18 hI
    obtain ⟨t, xr, xm, xc, rfl, sl_22, p_24, p_25, p_26, c_23, f_27, f_28⟩ := hI
    rw [← K.Sl.puts sl_22]; clear sl_22
    have z_29 := c_23.size
    refine K.KW.seq ?_
    refine K.KW.seq ?_
    -- region 3 ref.go:81
    refine K.KW.region ?_
    refine K.RW.q rfl rfl (K.QR.k (v := .int .i64 ((t : Nat) : Int)) (by kernel_rfl)) ?_
    refine K.RW.q rfl rfl (K.QR.k (v := .pointer (some ⟨r_2, 0, none⟩)) (by kernel_rfl)) ?_
    refine K.RW.q rfl rfl (K.QR.ld1 (v := .int .i64 c.th) rfl rfl (by kernel_rfl) (f_28.cell rfl)) ?_
    by_cases h_30 : (((t : Nat) : Int) : Int) < (c.th : Int)
    ·  -- yes
      refine K.RW.q rfl rfl (K.QR.nice (v := .bool (decide ((((t : Nat) : Int) : Int) < (c.th : Int)))) (by kernel_rfl) (congrArg Value.bool (decide_eq_true h_30))) ?_
      refine K.RW.nil ?_
      refine K.thn_normal ?_
      refine K.KW.ifT rfl ?_
      refine K.KW.skip ?_
      refine K.thn_normal ?_
      refine K.KW.seq ?_
      refine K.KW.block ?_
      -- region 5 ref.go:82
      refine K.KW.region ?_
      refine K.RW.q rfl rfl (K.QR.k (v := .slice xr xm xc) (by kernel_rfl)) ?_
      refine K.RW.q rfl rfl (K.QR.k (v := .int .i64 ((t : Nat) : Int)) (by kernel_rfl)) ?_
      refine K.RW.q rfl rfl (K.QR.bd [(0, .int .i64 16), (1, .int .i64 ((t : Nat) : Int))] [.int .i64 16, .int .i64 ((t : Nat) : Int), .int .i64 0] rfl rfl (by kernel_rfl)) ?_
      refine K.RW.l rfl (K.OW.bs rfl [(0, .agg #[.int .i64 16, .int .i64 ((t : Nat) : Int), .int .i64 0])] [.int .i64 16, .int .i64 ((t : Nat) : Int), .int .i64 0] rfl rfl (fun w => K.bs_run (P := Try.prog) w 68 81 1 _ _ Try.underlying68 (by kernel_rfl)) ?_) 
      intro w_31 r_32 hr_33 e_34 hs_35 b_36
      have c_37 := c_23.no e_34
      have z_38 := c_37.size
      have f_39 := f_27.no e_34
      have f_40 := f_28.no e_34
      have ap_41 : ∀ k, K.Ow xr k → ¬ k = r_32 := fun k hk he => absurd (f_27.lt k hk) (by omega)
      refine K.RW.l rfl (K.OW.app2 (P := Try.prog) (xs := ((psT t)).flatMap cNm) (z := .agg #[.int .i64 0, .int .i64 0, .int .i64 0]) (size := 3) (bytes := 24) rfl [.int .i64 16, .int .i64 ((t : Nat) : Int), .int .i64 0] rfl rfl f_39 rfl Try.underlying68 (by kernel_rfl) rfl (by decide) (by rfl) (fun j u hj => (by rw [Nat.zero_add]; exact b_36.cell hj)) (K.one_cells (by rfl)) (by unfold maxLen; omega) (by omega) (by omega) ?_) 
      intro a_42 cap_43 w_44 e_45 o_46 hk_47
      have c_48 := c_37.trans e_45 (fun i hi hy => absurd (f_39.base_le i hy) (by omega))
      have z_49 := c_48.size
      have f_50 := f_40.chg e_45 (fun hk => f_39.ne_ty f_40 (by decide) _ hk rfl)
      have o_46t := K.Own.snoc (c := cNm) (L := (psT t)) (⟨16, ((t : Nat) : Int), 0⟩ : Nm) rfl o_46
      have ln_51 : (((psT t) ++ [(⟨16, ((t : Nat) : Int), 0⟩ : Nm)])).length = xm + 1 := by rw [List.length_append, p_25]; rfl
      refine K.RW.q rfl rfl (K.QR.k (v := .slice a_42 (xm + 1) cap_43) (by kernel_rfl)) ?_
      refine K.RW.nil ?_
      refine K.blk_normal ?_
      refine K.thn_normal ?_
      -- region 4 ref.go:81
      refine K.KW.region ?_
      refine K.RW.q rfl rfl (K.QR.k (v := .int .i64 ((t : Nat) : Int)) (by kernel_rfl)) ?_
      refine K.RW.q rfl rfl (K.QR.n64 ((((t : Nat) : Int) : Int) + (1 : Int)) ((t + 1 : Nat) : Int) (by kernel_rfl) (by omega)) ?_
      refine K.RW.q rfl rfl (K.QR.k (v := .int .i64 ((t + 1 : Nat) : Int)) (by kernel_rfl)) ?_
      refine K.RW.nil ?_
      refine K.thn_normal ?_
      refine ⟨_, ?_, t + 1, a_42, xm + 1, cap_43, rfl, ⟨by rfl, by rfl, by rfl, by rfl, by rfl, trivial⟩, (by omega), (by exact ln_51), (by omega), c_48, o_46t, f_50⟩
      omega
    ·  -- no
      refine K.RW.q rfl rfl (K.QR.nice (v := .bool (decide ((((t : Nat) : Int) : Int) < (c.th : Int)))) (by kernel_rfl) (congrArg Value.bool (decide_eq_false h_30))) ?_
      refine K.RW.nil ?_
      refine K.thn_normal ?_
      refine K.KW.ifF rfl ?_
      refine K.KW.exit ?_
      refine K.thn_exit ?_
      refine K.thn_exit ?_
      refine K.blk_hit ?_
      refine K.thn_normal ?_
      refine K.KW.seq ?_
      refine K.KW.seq ?_
      -- region 6 ref.go:84
      refine K.KW.region ?_
      refine K.RW.q rfl rfl (K.QR.k (v := .int .i64 0) (by kernel_rfl)) ?_
      refine K.RW.nil ?_
      refine K.thn_normal ?_
      refine K.KW.block ?_
      refine K.KW.loop (fun m_ F_ w_52 => ∃ (s : Nat) (yr : Option Addr) (ym : Nat) (yc : Nat), m_ = (c.sl - (s : Nat) : Int).toNat ∧ K.Sl F_ [(0, .agg #[.int .i64 c.th, .int .i64 c.sl, .int .i64 c.lo, .int .i64 c.bu]), (1, .pointer (some ⟨r_2, 0, none⟩)), (2, .slice none 0 0), (3, .slice yr ym yc), (5, .int .i64 ((s : Nat) : Int))] ∧ ((s : Nat) : Int) ≤ c.sl ∧ (pfT c s).length = ym ∧ ym = 2 + c.th.toNat + s ∧ K.Chg K.No w0 w_52 ∧ K.Own w_52 w0.heap.size 81 3 yr ym yc ((pfT c s).flatMap cNm) ∧ K.Blk w_52 r_2 63 [.int .i64 c.th, .int .i64 c.sl, .int .i64 c.lo, .int .i64 c.bu]) ((fun (s : Nat) (yr : Option Addr) (ym : Nat) (yc : Nat) => (c.sl - (s : Nat) : Int).toNat) 0 xr xm xc) ?_ ?_
      · -- the loop begins
        exact ⟨0, xr, xm, xc, rfl, ⟨by rfl, by rfl, by rfl, by rfl, by rfl, trivial⟩, (by omega), (by exact (by have h := p_25; rw [show t = c.th.toNat by omega] at h; exact h)), (by omega), c_23, (by have h := f_27; rw [show t = c.th.toNat by omega] at h; exact h), f_28⟩
      · -- a round
        intro m_54 F_55 w_52 hI
        obtain ⟨s, yr, ym, yc, rfl, sl_56, p_58, p_59, p_60, c_57, f_61, f_62⟩ := hI
        rw [← K.Sl.puts sl_56]; clear sl_56
        have z_63 := c_57.size
        refine K.KW.seq ?_
        refine K.KW.seq ?_
        -- region 7 ref.go:84
        refine K.KW.region ?_
        refine K.RW.q rfl rfl (K.QR.k (v := .int .i64 ((s : Nat) : Int)) (by kernel_rfl)) ?_
        refine K.RW.q rfl rfl (K.QR.k (v := .pointer (some ⟨r_2, 1, none⟩)) (by kernel_rfl)) ?_
        refine K.RW.q rfl rfl (K.QR.ld1 (v := .int .i64 c.sl) rfl rfl (by kernel_rfl) (f_62.cell rfl)) ?_
        by_cases h_64 : (((s : Nat) : Int) : Int) < (c.sl : Int)
        ·  -- yes
          refine K.RW.q rfl rfl (K.QR.nice (v := .bool (decide ((((s : Nat) : Int) : Int) < (c.sl : Int)))) (by kernel_rfl) (congrArg Value.bool (decide_eq_true h_64))) ?_
          refine K.RW.nil ?_
          refine K.thn_normal ?_
          refine K.KW.ifT rfl ?_
          refine K.KW.skip ?_
          refine K.thn_normal ?_
          refine K.KW.seq ?_
          refine K.KW.block ?_
          -- region 9 ref.go:85
          refine K.KW.region ?_
          refine K.RW.q rfl rfl (K.QR.k (v := .slice yr ym yc) (by kernel_rfl)) ?_
          refine K.RW.q rfl rfl (K.QR.k (v := .int .i64 ((s : Nat) : Int)) (by kernel_rfl)) ?_
          refine K.RW.q rfl rfl (K.QR.bd [(0, .int .i64 17), (1, .int .i64 ((s : Nat) : Int))] [.int .i64 17, .int .i64 ((s : Nat) : Int), .int .i64 0] rfl rfl (by kernel_rfl)) ?_
          refine K.RW.l rfl (K.OW.bs rfl [(0, .agg #[.int .i64 17, .int .i64 ((s : Nat) : Int), .int .i64 0])] [.int .i64 17, .int .i64 ((s : Nat) : Int), .int .i64 0] rfl rfl (fun w => K.bs_run (P := Try.prog) w 68 81 1 _ _ Try.underlying68 (by kernel_rfl)) ?_) 
          intro w_65 r_66 hr_67 e_68 hs_69 b_70
          have c_71 := c_57.no e_68
          have z_72 := c_71.size
          have f_73 := f_61.no e_68
          have f_74 := f_62.no e_68
          have ap_75 : ∀ k, K.Ow yr k → ¬ k = r_66 := fun k hk he => absurd (f_61.lt k hk) (by omega)
          refine K.RW.l rfl (K.OW.app2 (P := Try.prog) (xs := ((pfT c s)).flatMap cNm) (z := .agg #[.int .i64 0, .int .i64 0, .int .i64 0]) (size := 3) (bytes := 24) rfl [.int .i64 17, .int .i64 ((s : Nat) : Int), .int .i64 0] rfl rfl f_73 rfl Try.underlying68 (by kernel_rfl) rfl (by decide) (by rfl) (fun j u hj => (by rw [Nat.zero_add]; exact b_70.cell hj)) (K.one_cells (by rfl)) (by unfold maxLen; omega) (by omega) (by omega) ?_) 
          intro a_76 cap_77 w_78 e_79 o_80 hk_81
          have c_82 := c_71.trans e_79 (fun i hi hy => absurd (f_73.base_le i hy) (by omega))
          have z_83 := c_82.size
          have f_84 := f_74.chg e_79 (fun hk => f_73.ne_ty f_74 (by decide) _ hk rfl)
          have o_80t := K.Own.snoc (c := cNm) (L := (pfT c s)) (⟨17, ((s : Nat) : Int), 0⟩ : Nm) rfl o_80
          have ln_85 : (((pfT c s) ++ [(⟨17, ((s : Nat) : Int), 0⟩ : Nm)])).length = ym + 1 := by rw [List.length_append, p_59]; rfl
          refine K.RW.q rfl rfl (K.QR.k (v := .slice a_76 (ym + 1) cap_77) (by kernel_rfl)) ?_
          refine K.RW.nil ?_
          refine K.blk_normal ?_
          refine K.thn_normal ?_
          -- region 8 ref.go:84
          refine K.KW.region ?_
          refine K.RW.q rfl rfl (K.QR.k (v := .int .i64 ((s : Nat) : Int)) (by kernel_rfl)) ?_
          refine K.RW.q rfl rfl (K.QR.n64 ((((s : Nat) : Int) : Int) + (1 : Int)) ((s + 1 : Nat) : Int) (by kernel_rfl) (by omega)) ?_
          refine K.RW.q rfl rfl (K.QR.k (v := .int .i64 ((s + 1 : Nat) : Int)) (by kernel_rfl)) ?_
          refine K.RW.nil ?_
          refine K.thn_normal ?_
          refine ⟨_, ?_, s + 1, a_76, ym + 1, cap_77, rfl, ⟨by rfl, by rfl, by rfl, by rfl, by rfl, trivial⟩, (by omega), (by exact ln_85), (by omega), c_82, o_80t, f_84⟩
          omega
        ·  -- no
          refine K.RW.q rfl rfl (K.QR.nice (v := .bool (decide ((((s : Nat) : Int) : Int) < (c.sl : Int)))) (by kernel_rfl) (congrArg Value.bool (decide_eq_false h_64))) ?_
          refine K.RW.nil ?_
          refine K.thn_normal ?_
          refine K.KW.ifF rfl ?_
          refine K.KW.exit ?_
          refine K.thn_exit ?_
          refine K.thn_exit ?_
          refine K.blk_hit ?_
          refine K.thn_normal ?_
          refine K.KW.seq ?_
          -- region 10 ref.go:87
          refine K.KW.region ?_
          refine K.RW.q rfl rfl (K.QR.k (v := .slice yr ym yc) (by kernel_rfl)) ?_
          refine K.RW.q rfl rfl (K.QR.k (v := .slice yr ym yc) (by kernel_rfl)) ?_
          refine K.RW.nil ?_
          refine K.thn_normal ?_
          refine K.KW.ret ?_
          refine ⟨.inr rfl, (.slice yr ym yc), K.res1 rfl rfl, ?_⟩
          exact ⟨_, _, _, rfl, c_57, (by have h := f_61; rw [show s = c.sl.toNat by omega] at h; exact h), (by have h := p_59; rw [show s = c.sl.toNat by omega] at h; exact h)⟩

end Go.Proofs.Ytcmlompigmhddaa
