/-
  LayoutWords answers true: each word has the number that it has when all are laid one behind the other; no condition on the input.
  The frame below is the kit's for a law that writes nothing that was there; the walk is in the imported texts.
-/
import Derived.Test.YtcmlompigmhddaaRows
import Derived.Test.YtcmlompigmhddaaKo
import Derived.Test.YtcmlompigmhddaaKp
import Derived.Test.YtcmlompigmhddaaLly
import Derived.WalkKit
import Derived.ProofKit
import Derived.OpenShut
import Derived.ShutString
import Derived.ChangeOld
import Derived.Below
namespace Go.Proofs.Ytcmlompigmhddaa.layoutWords
open Go.ChangeShapes Go.WideShapes Go.ChangeAt Go.RowKit
open Go.ChangeMaps (open_string shut_string)
set_option linter.unusedVariables false

theorem own : ownKnob Try.prog.godebug = none := by kernel_rfl
theorem laidOut : laidOutB Try.prog = true := by kernel_rfl

set_option maxRecDepth 100000 in
theorem decCfg {H : Type} {enc : TypeId × Value → H} {w : World} {base : Nat} {spare : Nat → Bool} {held : Bool} (cs : List Value) (n : Nat) (x : DataW H × List MemPlace) (h : DataW.trod enc Try.prog w base spare held n 63 cs = some x) :
    ∃ y : Cfg, cs = cCfg y ∧ (fun _ => True) y := by
  obtain ⟨ys0, m0, _, _, hlen0, hyl0, hf0⟩ := DataW.trod_struct Try.underlying63 h
  have hy0 : ys0.length = 4 := hyl0
  obtain ⟨y0, e0, w0⟩ := K.part_int (off := 0) Try.underlying3 (by kernel_rfl) (hf0 0 _ rfl) (by omega)
  have f0 := e0
  obtain ⟨y1, e1, w1⟩ := K.part_int (off := 1) Try.underlying3 (by kernel_rfl) (hf0 1 _ rfl) (by omega)
  have f1 := e1
  obtain ⟨y2, e2, w2⟩ := K.part_int (off := 2) Try.underlying3 (by kernel_rfl) (hf0 2 _ rfl) (by omega)
  have f2 := e2
  obtain ⟨y3, e3, w3⟩ := K.part_int (off := 3) Try.underlying3 (by kernel_rfl) (hf0 3 _ rfl) (by omega)
  have f3 := e3
  have htot : cs.length = 4 := hlen0.trans (by kernel_rfl)
  match cs, htot with
  | [c0, c1, c2, c3], _ =>
    simp at f0 f1 f2 f3
    subst f0 f1 f2 f3
    exact ⟨⟨y0, y1, y2, y3⟩, rfl, trivial⟩

set_option maxRecDepth 100000 in
theorem lifted (os : Os) (started : os.Started) (H : Type) (enc : TypeId × Value → H) :
    ReturnsInHanded {} Try.checked os 12 .any (Rows.layoutWordsSpec.pre6 enc Try.prog Try.f12 Rows.layoutWordsRow.domain false) (Rows.layoutWordsSpec.post enc Try.prog Try.f12 false true false false) := by
  refine returnsInHanded_of_change (C := Try.checked) own started (by kernel_rfl) Try.func12
    (ChangeSpec.witness6 (enc := enc) (C := Try.checked) false ⟨#[], #[.agg #[.int .i64 0, .int .i64 0, .int .i64 0, .int .i64 0]], []⟩ 8 (by kernel_rfl) (by kernel_rfl) (by kernel_rfl) (by kernel_rfl)) ?_
  intro W base args ds gs before hval0 hW hcnd _
  have hval : ∀ (j : Nat) t v, Try.f12.params[j]? = some t → args[j]? = some v → Value.okWide Try.prog W .any base t v := hval0
  have hW' := hW
  obtain ⟨p, q, hA0, hV, rfl, hfz, hnd⟩ := hW
  have hA : DataW.TrodAll enc Try.prog W 0 (fun _ => true) true Try.f12.params.toList args.toList ds p := hA0
  rw [Try.params12] at hA hval
  obtain ⟨v0, vs0, d0, ds0, p0, q0, hargs, rfl, rfl, h0, r0⟩ := trodAll_cons hA
  obtain ⟨rfl, rfl, rfl⟩ := trodAll_nil r0
  obtain rfl : args = #[v0] := by cases args; simp_all
  obtain ⟨rfl, rfl⟩ := trodVars_none hV
  have k0 := h0
  have lt0 : ∀ x ∈ p0, x.block < W.heap.size := by obtain ⟨m, hm⟩ := k0; exact DataW.trod_lt m _ _ _ hm
  obtain ⟨a0, l0, g0⟩ := K.agg_of_trod cCfg (fun _ => True) (K.okWide_agg (by kernel_rfl) (hval 0 63 v0 rfl rfl)) decCfg h0
  obtain rfl := l0
  clear hA0 hval0
  refine (calls_of_kc (layWords_ok a0 W)).mono fun e W' ⟨he, bel⟩ => ?_
  subst he
  exact ⟨_, rfl, _, _, _, [], _, [], hW', trodAll_mk1 (shut_bool Try.underlying4 _), (trodAll_cons_mk (Below.trod laidOut (by kernel_rfl) (of_decide_eq_true (by kernel_rfl)) k0 bel lt0) trodAll_mk0), rfl, bel.frame _, fun h => by cases h⟩

theorem over : Rows.layoutWordsRow.holds Try.pinned (OpenSpec.ofChange Rows.layoutWordsSpec) :=
  OpenClaim.holds_of_wide 12 Try.f12 rfl rfl rfl rfl rfl rfl rfl ⟨rfl, rfl, rfl, rfl, rfl⟩ rfl rfl rfl rfl rfl (by kernel_rfl) Try.func12 (by kernel_rfl)
    (of_decide_eq_true (by kernel_rfl)) (by unfold Func.isWrapper; first | (rw [if_pos (by decide +kernel)]; kernel_rfl) | (rw [if_neg (by decide +kernel)]; exact ⟨rfl, rfl⟩))
    (fun os started H enc _ => lifted os started H enc)

theorem proved : Rows.LayoutWordsSaid := over
end Go.Proofs.Ytcmlompigmhddaa.layoutWords
