/-
  RetireAlone answers true: what was reserved, and stamped, is given back behind two more epochs, not ahead of that, and meanwhile it stands in the log; no condition on the input.
  The frame below is the kit's for a law that writes nothing that was there; the walk is in the imported texts.
-/
import Derived.Test.YtkmndplicmaahaaGreatRows
import Derived.Test.YtkmndplicmaahaaGreatKo
import Derived.Test.YtkmndplicmaahaaGreatKp
import Derived.Test.YtkmndplicmaahaaGreatLl11a
import Derived.WalkKit
import Derived.ProofKit
import Derived.OpenShut
import Derived.ShutString
import Derived.ChangeOld
import Derived.Below
namespace Go.Proofs.YtkmndplicmaahaaGreat.retireAlone
open Go.ChangeShapes Go.WideShapes Go.ChangeAt Go.RowKit
open Go.ChangeMaps (open_string shut_string)
set_option linter.unusedVariables false

theorem own : ownKnob Tryz.prog.godebug = none := by kernel_rfl
theorem laidOut : laidOutB Tryz.prog = true := by kernel_rfl

set_option maxRecDepth 100000 in
theorem decCfg {H : Type} {enc : TypeId × Value → H} {w : World} {base : Nat} {spare : Nat → Bool} {held : Bool} (cs : List Value) (n : Nat) (x : DataW H × List MemPlace) (h : DataW.trod enc Tryz.prog w base spare held n 23 cs = some x) :
    ∃ y : Cfg, cs = cCfg y ∧ ((fun c : Cfg => isInt c.th ∧ isInt c.sl ∧ isInt c.lo ∧ isInt c.bu)) y := by
  obtain ⟨ys0, m0, _, _, hlen0, hyl0, hf0⟩ := DataW.trod_struct Tryz.underlying23 h
  have hy0 : ys0.length = 4 := hyl0
  obtain ⟨y0, e0, w0⟩ := K.part_int (off := 0) Tryz.underlying3 (by kernel_rfl) (hf0 0 _ rfl) (by omega)
  have f0 := e0
  obtain ⟨y1, e1, w1⟩ := K.part_int (off := 1) Tryz.underlying3 (by kernel_rfl) (hf0 1 _ rfl) (by omega)
  have f1 := e1
  obtain ⟨y2, e2, w2⟩ := K.part_int (off := 2) Tryz.underlying3 (by kernel_rfl) (hf0 2 _ rfl) (by omega)
  have f2 := e2
  obtain ⟨y3, e3, w3⟩ := K.part_int (off := 3) Tryz.underlying3 (by kernel_rfl) (hf0 3 _ rfl) (by omega)
  have f3 := e3
  have htot : cs.length = 4 := hlen0.trans (by kernel_rfl)
  match cs, htot with
  | [c0, c1, c2, c3], _ =>
    simp at f0 f1 f2 f3
    subst f0 f1 f2 f3
    exact ⟨⟨y0, y1, y2, y3⟩, rfl, ⟨bounds_i64 w0, bounds_i64 w1, bounds_i64 w2, bounds_i64 w3⟩⟩

def cI2 (y : Int × Int) : List Value := [.int .i64 y.1, .int .i64 y.2]
def cB2 (y : Int × Int) : List Value := [.int .u8 y.1, .int .u8 y.2]
set_option maxRecDepth 100000 in
theorem decI2 {H : Type} {enc : TypeId × Value → H} {w : World} {base : Nat} {spare : Nat → Bool} {held : Bool} (cs : List Value) (n : Nat) (x : DataW H × List MemPlace) (h : DataW.trod enc Tryz.prog w base spare held n 24 cs = some x) :
    ∃ y : Int × Int, cs = cI2 y ∧ ((fun y : Int × Int => isInt y.1 ∧ isInt y.2)) y := by
  obtain ⟨ys0, m0, _, _, hlen0, hyl0, hf0⟩ := DataW.trod_array Tryz.underlying24 h
  have hy0 : ys0.length = 2 := hyl0
  obtain ⟨y0, e0, w0⟩ := K.part_int (off := 0) Tryz.underlying3 (by kernel_rfl) (hf0 0 (by omega)) (by omega)
  have f0 := e0
  obtain ⟨y1, e1, w1⟩ := K.part_int (off := 1) Tryz.underlying3 (by kernel_rfl) (hf0 1 (by omega)) (by omega)
  have f1 := e1
  have htot : cs.length = 2 := hlen0.trans (by kernel_rfl)
  match cs, htot with
  | [c0, c1], _ =>
    simp at f0 f1
    subst f0 f1
    exact ⟨⟨y0, y1⟩, rfl, ⟨bounds_i64 w0, bounds_i64 w1⟩⟩
set_option maxRecDepth 100000 in
theorem decB2 {H : Type} {enc : TypeId × Value → H} {w : World} {base : Nat} {spare : Nat → Bool} {held : Bool} (cs : List Value) (n : Nat) (x : DataW H × List MemPlace) (h : DataW.trod enc Tryz.prog w base spare held n 25 cs = some x) :
    ∃ y : Int × Int, cs = cB2 y ∧ ((fun y : Int × Int => (0 ≤ y.1 ∧ y.1 ≤ 255) ∧ (0 ≤ y.2 ∧ y.2 ≤ 255))) y := by
  obtain ⟨ys0, m0, _, _, hlen0, hyl0, hf0⟩ := DataW.trod_array Tryz.underlying25 h
  have hy0 : ys0.length = 2 := hyl0
  obtain ⟨y0, e0, w0⟩ := K.part_int (off := 0) Tryz.underlying5 (by kernel_rfl) (hf0 0 (by omega)) (by omega)
  have f0 := e0
  obtain ⟨y1, e1, w1⟩ := K.part_int (off := 1) Tryz.underlying5 (by kernel_rfl) (hf0 1 (by omega)) (by omega)
  have f1 := e1
  have htot : cs.length = 2 := hlen0.trans (by kernel_rfl)
  match cs, htot with
  | [c0, c1], _ =>
    simp at f0 f1
    subst f0 f1
    exact ⟨⟨y0, y1⟩, rfl, ⟨bounds_u8 w0, bounds_u8 w1⟩⟩

set_option maxRecDepth 100000 in
theorem lifted (os : Os) (started : os.Started) (H : Type) (enc : TypeId × Value → H) :
    ReturnsInHanded {} Tryz.checked os 3 .any (Rows.retireAloneSpec.pre6 enc Tryz.prog Tryz.f3 Rows.retireAloneRow.domain false) (Rows.retireAloneSpec.post enc Tryz.prog Tryz.f3 false true false false) := by
  refine returnsInHanded_of_change (C := Tryz.checked) own started (by kernel_rfl) Tryz.func3
    (ChangeSpec.witness6 (enc := enc) (C := Tryz.checked) false ⟨#[], #[.agg #[.int .i64 0, .int .i64 0, .int .i64 0, .int .i64 0], .agg #[.int .i64 0, .int .i64 0], .agg #[.int .u8 0, .int .u8 0]], []⟩ 8 (by kernel_rfl) (by kernel_rfl) (by kernel_rfl) (by kernel_rfl)) ?_
  intro W base args ds gs before hval0 hW hcnd _
  have hval : ∀ (j : Nat) t v, Tryz.f3.params[j]? = some t → args[j]? = some v → Value.okWide Tryz.prog W .any base t v := hval0
  have hW' := hW
  obtain ⟨p, q, hA0, hV, rfl, hfz, hnd⟩ := hW
  have hA : DataW.TrodAll enc Tryz.prog W 0 (fun _ => true) true Tryz.f3.params.toList args.toList ds p := hA0
  rw [Tryz.params3] at hA hval
  obtain ⟨v0, vs0, d0, ds0, p0, q0, hargs, rfl, rfl, h0, r0⟩ := trodAll_cons hA
  obtain ⟨v1, vs1, d1, ds1, p1, q1, rfl, rfl, rfl, h1, r1⟩ := trodAll_cons r0
  obtain ⟨v2, vs2, d2, ds2, p2, q2, rfl, rfl, rfl, h2, r2⟩ := trodAll_cons r1
  obtain ⟨rfl, rfl, rfl⟩ := trodAll_nil r2
  obtain rfl : args = #[v0, v1, v2] := by cases args; simp_all
  obtain ⟨rfl, rfl⟩ := trodVars_none hV
  have k0 := h0
  have lt0 : ∀ x ∈ p0, x.block < W.heap.size := by obtain ⟨m, hm⟩ := k0; exact DataW.trod_lt m _ _ _ hm
  obtain ⟨a0, l0, g0⟩ := K.agg_of_trod cCfg ((fun c : Cfg => isInt c.th ∧ isInt c.sl ∧ isInt c.lo ∧ isInt c.bu)) (K.okWide_agg (by kernel_rfl) (hval 0 23 v0 rfl rfl)) decCfg h0
  obtain rfl := l0
  have k1 := h1
  have lt1 : ∀ x ∈ p1, x.block < W.heap.size := by obtain ⟨m, hm⟩ := k1; exact DataW.trod_lt m _ _ _ hm
  obtain ⟨a1, l1, g1⟩ := K.agg_of_trod cI2 ((fun y : Int × Int => isInt y.1 ∧ isInt y.2)) (K.okWide_agg (by kernel_rfl) (hval 1 24 v1 rfl rfl)) decI2 h1
  obtain rfl := l1
  have k2 := h2
  have lt2 : ∀ x ∈ p2, x.block < W.heap.size := by obtain ⟨m, hm⟩ := k2; exact DataW.trod_lt m _ _ _ hm
  obtain ⟨a2, l2, g2⟩ := K.agg_of_trod cB2 ((fun y : Int × Int => (0 ≤ y.1 ∧ y.1 ≤ 255) ∧ (0 ≤ y.2 ∧ y.2 ≤ 255))) (K.okWide_agg (by kernel_rfl) (hval 2 25 v2 rfl rfl)) decB2 h2
  obtain rfl := l2
  clear hA0 hval0
  refine (calls_of_kc (K.GC.law (l11alone_ok W a0 a1.1 a1.2 a2.1 a2.2 g1.1 g1.2 g2.1 g2.2))).mono fun e W' ⟨he, bel⟩ => ?_
  subst he
  exact ⟨_, rfl, _, _, _, [], _, [], hW', trodAll_mk1 (shut_bool Tryz.underlying4 _), (trodAll_cons_mk (Below.trod laidOut (by kernel_rfl) (of_decide_eq_true (by kernel_rfl)) k0 bel lt0) (trodAll_cons_mk (Below.trod laidOut (by kernel_rfl) (of_decide_eq_true (by kernel_rfl)) k1 bel lt1) (trodAll_cons_mk (Below.trod laidOut (by kernel_rfl) (of_decide_eq_true (by kernel_rfl)) k2 bel lt2) trodAll_mk0))), rfl, bel.frame _, fun h => by cases h⟩

theorem over : Rows.retireAloneRow.holds Tryz.pinned (OpenSpec.ofChange Rows.retireAloneSpec) :=
  OpenClaim.holds_of_wide 3 Tryz.f3 rfl rfl rfl rfl rfl rfl rfl ⟨rfl, rfl, rfl, rfl, rfl⟩ rfl rfl rfl rfl rfl (by kernel_rfl) Tryz.func3 (by kernel_rfl)
    (of_decide_eq_true (by kernel_rfl)) (by unfold Func.isWrapper; first | (rw [if_pos (by decide +kernel)]; kernel_rfl) | (rw [if_neg (by decide +kernel)]; exact ⟨rfl, rfl⟩))
    (fun os started H enc _ => lifted os started H enc)

theorem proved : Rows.RetireAloneSaid := over
end Go.Proofs.YtkmndplicmaahaaGreat.retireAlone
