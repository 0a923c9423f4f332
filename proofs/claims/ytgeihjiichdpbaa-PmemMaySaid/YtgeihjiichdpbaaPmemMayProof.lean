/-
  PmemMay answers true: which memories may be, and of none nothing is told; no condition on the input.
  The frame below is the kit's for a law that writes nothing that was there; the walk is in the imported texts.
-/
import Derived.Test.YtgeihjiichdpbaaRows
import Derived.Test.YtgeihjiichdpbaaKo
import Derived.Test.YtgeihjiichdpbaaKp
import Derived.Test.YtgeihjiichdpbaaLl7d
import Derived.WalkKit
import Derived.ProofKit
import Derived.OpenShut
import Derived.ShutString
import Derived.ChangeOld
import Derived.Below
namespace Go.Proofs.Ytgeihjiichdpbaa.pmemMay
open Go.ChangeShapes Go.WideShapes Go.ChangeAt Go.RowKit
open Go.ChangeMaps (open_string shut_string)
set_option linter.unusedVariables false

theorem own : ownKnob Try.prog.godebug = none := by kernel_rfl
theorem laidOut : laidOutB Try.prog = true := by kernel_rfl

set_option maxRecDepth 100000 in
theorem decAct {H : Type} {enc : TypeId × Value → H} {w : World} {base : Nat} {spare : Nat → Bool} {held : Bool} (cs : List Value) (n : Nat) (x : DataW H × List MemPlace) (h : DataW.trod enc Try.prog w base spare held n 87 cs = some x) :
    ∃ y : ActP, cs = cActP y ∧ (ActP.good) y := by
  obtain ⟨ys0, m0, _, _, hlen0, hyl0, hf0⟩ := DataW.trod_struct Try.underlying87 h
  have hy0 : ys0.length = 5 := hyl0
  obtain ⟨y0, e0, w0⟩ := K.part_int (off := 0) Try.underlying3 (by kernel_rfl) (hf0 0 _ rfl) (by omega)
  have f0 := e0
  obtain ⟨y1, e1, w1⟩ := K.part_int (off := 1) Try.underlying3 (by kernel_rfl) (hf0 1 _ rfl) (by omega)
  have f1 := e1
  obtain ⟨y2, e2, w2⟩ := K.part_int (off := 2) Try.underlying3 (by kernel_rfl) (hf0 2 _ rfl) (by omega)
  have f2 := e2
  obtain ⟨y3, e3, w3⟩ := K.part_int (off := 3) Try.underlying23 (by kernel_rfl) (hf0 3 _ rfl) (by omega)
  have f3 := e3
  obtain ⟨y4, e4, w4⟩ := K.part_int (off := 4) Try.underlying23 (by kernel_rfl) (hf0 4 _ rfl) (by omega)
  have f4 := e4
  have htot : cs.length = 5 := hlen0.trans (by kernel_rfl)
  match cs, htot with
  | [c0, c1, c2, c3, c4], _ =>
    simp at f0 f1 f2 f3 f4
    subst f0 f1 f2 f3 f4
    exact ⟨⟨y0, y1, y2, y3, y4⟩, rfl, ⟨bounds_i64 w0, bounds_i64 w1, bounds_i64 w2⟩⟩

set_option maxRecDepth 100000 in
theorem lifted (os : Os) (started : os.Started) (H : Type) (enc : TypeId × Value → H) :
    ReturnsInHanded {} Try.checked os 12 .any (Rows.pmemMaySpec.pre6 enc Try.prog Try.f12 Rows.pmemMayRow.domain false) (Rows.pmemMaySpec.post enc Try.prog Try.f12 false true false false) := by
  refine returnsInHanded_of_change (C := Try.checked) own started (by kernel_rfl) Try.func12
    (ChangeSpec.witness6 (enc := enc) (C := Try.checked) false ⟨#[], #[.bool false, .int .i64 0, .agg #[.int .i64 0, .int .i64 0, .int .i64 0, .int .u64 0, .int .u64 0]], []⟩ 8 (by kernel_rfl) (by kernel_rfl) (by kernel_rfl) (by kernel_rfl)) ?_
  intro W base args ds gs before hval0 hW hcnd _
  have hval : ∀ (j : Nat) t v, Try.f12.params[j]? = some t → args[j]? = some v → Value.okWide Try.prog W .any base t v := hval0
  have hW' := hW
  obtain ⟨p, q, hA0, hV, rfl, hfz, hnd⟩ := hW
  have hA : DataW.TrodAll enc Try.prog W 0 (fun _ => true) true Try.f12.params.toList args.toList ds p := hA0
  rw [Try.params12] at hA hval
  obtain ⟨v0, vs0, d0, ds0, p0, q0, hargs, rfl, rfl, h0, r0⟩ := trodAll_cons hA
  obtain ⟨v1, vs1, d1, ds1, p1, q1, rfl, rfl, rfl, h1, r1⟩ := trodAll_cons r0
  obtain ⟨v2, vs2, d2, ds2, p2, q2, rfl, rfl, rfl, h2, r2⟩ := trodAll_cons r1
  obtain ⟨rfl, rfl, rfl⟩ := trodAll_nil r2
  obtain rfl : args = #[v0, v1, v2] := by cases args; simp_all
  obtain ⟨rfl, rfl⟩ := trodVars_none hV
  obtain ⟨a0, rfl, rfl, rfl⟩ := open_bool Try.underlying4 (hval 0 4 v0 rfl rfl) h0
  obtain ⟨a1, rfl, rfl, rfl, w1⟩ := open_int Try.underlying3 (hval 1 3 v1 rfl rfl) h1
  have k2 := h2
  have lt2 : ∀ x ∈ p2, x.block < W.heap.size := by obtain ⟨m, hm⟩ := k2; exact DataW.trod_lt m _ _ _ hm
  obtain ⟨a2, l2, g2⟩ := K.agg_of_trod cActP (ActP.good) (K.okWide_agg (by kernel_rfl) (hval 2 87 v2 rfl rfl)) decAct h2
  obtain rfl := l2
  clear hA0 hval0
  refine (calls_of_kc (K.GC.law (by cases a0 with | true => exact l7mayT_ok W a1 (bounds_i64 w1) a2 g2 | false => exact l7mayF_ok W a1 (bounds_i64 w1) a2 g2))).mono fun e W' ⟨he, bel⟩ => ?_
  subst he
  exact ⟨_, rfl, _, _, _, [], _, [], hW', trodAll_mk1 (shut_bool Try.underlying4 _), (trodAll_cons_mk (shut_bool Try.underlying4 _) (trodAll_cons_mk (shut_int Try.underlying3 w1) (trodAll_cons_mk (Below.trod laidOut (by kernel_rfl) (of_decide_eq_true (by kernel_rfl)) k2 bel lt2) trodAll_mk0))), rfl, bel.frame _, fun h => by cases h⟩

theorem over : Rows.pmemMayRow.holds Try.pinned (OpenSpec.ofChange Rows.pmemMaySpec) :=
  OpenClaim.holds_of_wide 12 Try.f12 rfl rfl rfl rfl rfl rfl rfl ⟨rfl, rfl, rfl, rfl, rfl⟩ rfl rfl rfl rfl rfl (by kernel_rfl) Try.func12 (by kernel_rfl)
    (of_decide_eq_true (by kernel_rfl)) (by unfold Func.isWrapper; first | (rw [if_pos (by decide +kernel)]; kernel_rfl) | (rw [if_neg (by decide +kernel)]; exact ⟨rfl, rfl⟩))
    (fun os started H enc _ => lifted os started H enc)

theorem proved : Rows.PmemMaySaid := over
end Go.Proofs.Ytgeihjiichdpbaa.pmemMay
