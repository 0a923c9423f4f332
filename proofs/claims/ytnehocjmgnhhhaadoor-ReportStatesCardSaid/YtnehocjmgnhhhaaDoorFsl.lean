import Derived.Test.YtnehocjmgnhhhaaDoorFlist
import Derived.Test.YtnehocjmgnhhhaaDoorKw
/- slices and cmp over keys and pairs: Compare, BinarySearchFunc, Equal, Clone. -/
namespace Go.Proofs.YtnehocjmgnhhhaaDoor
open Go.RowKit
set_option linter.unusedVariables false
attribute [local irreducible] K.KW K.RW K.DW K.OW K.QR K.KC
structure PairM where
  key : Int
  val : Int
  deriving DecidableEq
def p0 : PairM := ⟨0, 0⟩
def cPair (p : PairM) : List Value := [.int .u32 p.key, .int .u32 p.val]
abbrev RU32 (w : World) (a : Option Addr) (xs : List Int) : Prop := K.RowE w a xs.length 1 (fun i => cU32 (xs.getD i 0))
abbrev RPr (w : World) (a : Option Addr) (xs : List PairM) : Prop := K.RowE w a xs.length 2 (fun i => cPair (xs.getD i p0))
def isU32 (x : Int) : Prop := 0 ≤ x ∧ x ≤ 4294967295
/-- do the keys rise? -/
def rising (ks : List Int) : Prop := ∀ i, i + 1 < ks.length → ks.getD i 0 < ks.getD (i + 1) 0
def keysP (l : List PairM) : List Int := l.map (·.key)
theorem keysP_len (l : List PairM) : (keysP l).length = l.length := by simp [keysP]
theorem keysP_get (l : List PairM) (i : Nat) : (keysP l).getD i 0 = (l.getD i p0).key := by
  unfold keysP
  rw [List.getD_eq_getElem?_getD, List.getD_eq_getElem?_getD, List.getElem?_map]
  cases l[i]? <;> rfl
set_option maxHeartbeats 1000000 in
set_option maxRecDepth 100000 in
theorem own_ok (x : Int) (w0 : World) :
    K.KC Tryd.prog 81 #[.int .u32 x] w0 (fun v w' => v = .int .u32 x ∧ K.Chg K.No w0 w') := by
  refine K.KC.mk (n := 4) Tryd.func81 rfl rfl [.int .u32 x] rfl rfl ?_
  refine K.KW.seq ?_
  -- region 0 model.go:33
  refine K.KW.region ?_
  refine K.RW.q rfl rfl (K.QR.k (v := .int .u32 0) (by kernel_rfl)) ?_
  refine K.RW.nil ?_
  refine K.thn_normal ?_
  refine K.KW.seq ?_
  -- region 1 model.go:33
  refine K.KW.region ?_
  refine K.RW.q rfl rfl (K.QR.k (v := .int .u32 x) (by kernel_rfl)) ?_
  refine K.RW.q rfl rfl (K.QR.k (v := .int .u32 x) (by kernel_rfl)) ?_
  refine K.RW.nil ?_
  refine K.thn_normal ?_
  refine K.KW.ret ?_
  refine ⟨.inr rfl, rfl, (.int .u32 x), K.res1 rfl rfl, ?_⟩
  exact ⟨rfl, (K.Chg.refl _)⟩
set_option maxHeartbeats 1000000 in
set_option maxRecDepth 100000 in
theorem first_ok (x y : Int) (w0 : World) :
    K.KC Tryd.prog 83 #[.agg #[.int .u32 x, .int .u32 y]] w0 (fun v w' => v = .int .u32 x ∧ K.Chg K.No w0 w') := by
  refine K.KC.mk (n := 5) Tryd.func83 rfl rfl [.agg #[.int .u32 x, .int .u32 y]] rfl rfl ?_
  refine K.KW.seq ?_
  -- region 0 model.go:34
  refine K.KW.region ?_
  refine K.RW.l rfl (K.OW.new (t := 92) rfl (fun r => .pointer (some ⟨r, 0, none⟩)) [.int .u32 x, .int .u32 y] (by kernel_rfl) ?_) 
  intro w_1 r_2 hr_3 e_4 hs_5 b_6
  have c_7 := e_4
  have z_8 := c_7.size
  have zz_9 := e_4.size
  refine K.RW.q rfl rfl (K.QR.k (v := .int .u32 0) (by kernel_rfl)) ?_
  refine K.RW.nil ?_
  refine K.thn_normal ?_
  refine K.KW.seq ?_
  -- region 1 model.go:34
  refine K.KW.region ?_
  refine K.RW.q rfl rfl (K.QR.k (v := .pointer (some ⟨r_2, 0, none⟩)) (by kernel_rfl)) ?_
  refine K.RW.q rfl rfl (K.QR.ld1 (v := .int .u32 x) rfl rfl (by kernel_rfl) (b_6.cell rfl)) ?_
  refine K.RW.q rfl rfl (K.QR.k (v := .int .u32 x) (by kernel_rfl)) ?_
  refine K.RW.nil ?_
  refine K.thn_normal ?_
  refine K.KW.ret ?_
  refine ⟨.inr rfl, rfl, (.int .u32 x), K.res1 rfl rfl, ?_⟩
  exact ⟨rfl, c_7⟩
end Go.Proofs.YtnehocjmgnhhhaaDoor
