/-
  PmemPeeks answers true: to look is no access, what is at any word is told, and the clock stays; no condition on the input.
  The frame below is the kit's for a law that writes nothing that was there; the walk is in the imported texts.
-/
import Derived.Test.YtgeihjiichdpbaaRows
import Derived.Test.YtgeihjiichdpbaaKo
import Derived.Test.YtgeihjiichdpbaaKp
import Derived.Test.YtgeihjiichdpbaaLl7b
import Derived.WalkKit
import Derived.ProofKit
import Derived.OpenShut
import Derived.ShutString
import Derived.ChangeOld
import Derived.Below
namespace Go.Proofs.Ytgeihjiichdpbaa.pmemPeeks
open Go.ChangeShapes Go.WideShapes Go.ChangeAt Go.RowKit
open Go.ChangeMaps (open_string shut_string)
set_option linter.unusedVariables false

theorem own : ownKnob Try.prog.godebug = none := by kernel_rfl
theorem laidOut : laidOutB Try.prog = true := by kernel_rfl

set_option maxRecDepth 100000 in
theorem decAct {H : Type} {enc : TypeId × Value → H} {w : World} {base : Nat} {spare : Nat → Bool} {held : Bool} (cs : List Value) (n : Nat) (x : DataW H × List MemPlace) (h : DataW.trod enc Try.prog w base spare held n 87 cs = some x) :
    ∃ y : ActP, cs = cActP y ∧ (ActP.good) y := by
  obtain ⟨ys0, m0, _, _, hlen0, hyl0, hf0⟩ := DataW.trod_struct Try.underlying87 h
  have hy0 : ys0.length = 5 := hyl0
  obtain ⟨y0, e0, w0⟩ := K.part_int (off := 0) Try.underlying3 (by kernel_rfl) (hf0 0 _ rfl) (by omega)
  have f0 := e0
  obtain ⟨y1, e1, w1⟩ := K.part_int (off := 1) Try.underlying3 (by kernel_rfl) (hf0 1 _ rfl) (by omega)
  have f1 := e1
  obtain ⟨y2, e2, w2⟩ := K.part_int (off := 2) Try.underlying3 (by kernel_rfl) (hf0 2 _ rfl) (by omega)
  have f2 := e2
  obtain ⟨y3, e3, w3⟩ := K.part_int (off := 3) Try.underlying23 (by kernel_rfl) (hf0 3 _ rfl) (by omega)
  have f3 := e3
  obtain ⟨y4, e4, w4⟩ := K.part_int (off := 4) Try.underlying23 (by kernel_rfl) (hf0 4 _ rfl) (by omega)
  have f4 := e4
  have htot : cs.length = 5 := hlen0.trans (by kernel_rfl)
  match cs, htot with
  | [c0, c1, c2, c3, c4], _ =>
    simp at f0 f1 f2 f3 f4
    subst f0 f1 f2 f3 f4
    exact ⟨⟨y0, y1, y2, y3, y4⟩, rfl, ⟨bounds_i64 w0, bounds_i64 w1, bounds_i64 w2⟩⟩

set_option maxRecDepth 100000 in
theorem lifted (os : Os) (started : os.Started) (H : Type) (enc : TypeId × Value → H) :
    ReturnsInHanded {} Try.checked os 14 .any (Rows.pmemPeeksSpec.pre6 enc Try.prog Try.f14 Rows.pmemPeeksRow.domain false) (Rows.pmemPeeksSpec.post enc Try.prog Try.f14 false true false false) := by
  refine returnsInHanded_of_change (C := Try.checked) own started (by kernel_rfl) Try.func14
    (ChangeSpec.witness6 (enc := enc) (C := Try.checked) false ⟨#[], #[.slice none 0 0, .slice none 0 0, .int .i64 0], []⟩ 8 (by kernel_rfl) (by kernel_rfl) (by kernel_rfl) (by kernel_rfl)) ?_
  intro W base args ds gs before hval0 hW hcnd _
  have hval : ∀ (j : Nat) t v, Try.f14.params[j]? = some t → args[j]? = some v → Value.okWide Try.prog W .any base t v := hval0
  have hW' := hW
  obtain ⟨p, q, hA0, hV, rfl, hfz, hnd⟩ := hW
  have hA : DataW.TrodAll enc Try.prog W 0 (fun _ => true) true Try.f14.params.toList args.toList ds p := hA0
  rw [Try.params14] at hA hval
  obtain ⟨v0, vs0, d0, ds0, p0, q0, hargs, rfl, rfl, h0, r0⟩ := trodAll_cons hA
  obtain ⟨v1, vs1, d1, ds1, p1, q1, rfl, rfl, rfl, h1, r1⟩ := trodAll_cons r0
  obtain ⟨v2, vs2, d2, ds2, p2, q2, rfl, rfl, rfl, h2, r2⟩ := trodAll_cons r1
  obtain ⟨rfl, rfl, rfl⟩ := trodAll_nil r2
  obtain rfl : args = #[v0, v1, v2] := by cases args; simp_all
  obtain ⟨rfl, rfl⟩ := trodVars_none hV
  have k0 := h0
  have lt0 : ∀ x ∈ p0, x.block < W.heap.size := by obtain ⟨m, hm⟩ := k0; exact DataW.trod_lt m _ _ _ hm
  obtain ⟨a0, len0, cap0, rfl⟩ := okWide_slice Try.underlying22 (hval 0 22 v0 rfl rfl)
  obtain ⟨L0, l0, w0, g0, m0, c0⟩ := K.row_of_trod cU64 (0 : Int) (fun _ => True) (size := 1) Try.underlying22 (by kernel_rfl) (by decide) (fun cs n x h => by obtain ⟨y, h, _⟩ := K.dec_int Try.underlying23 cU64 (fun _ => rfl) cs n x h; exact ⟨y, h, trivial⟩) h0
  obtain rfl := l0
  have k1 := h1
  have lt1 : ∀ x ∈ p1, x.block < W.heap.size := by obtain ⟨m, hm⟩ := k1; exact DataW.trod_lt m _ _ _ hm
  obtain ⟨a1, len1, cap1, rfl⟩ := okWide_slice Try.underlying96 (hval 1 96 v1 rfl rfl)
  obtain ⟨L1, l1, w1, g1, m1, c1⟩ := K.row_of_trod cActP (⟨0, 0, 0, 0, 0⟩ : ActP) (ActP.good) (size := 5) Try.underlying96 (by kernel_rfl) (by decide) decAct h1
  obtain rfl := l1
  obtain ⟨a2, rfl, rfl, rfl, w2⟩ := open_int Try.underlying3 (hval 2 3 v2 rfl rfl) h2
  clear hA0 hval0
  refine (calls_of_kc (K.GC.law (l7peeks_ok W a0 a1 cap0 cap1 L0 L1 g1 m0 m1 c0 w0 w1 a2 (bounds_i64 w2)))).mono fun e W' ⟨he, bel⟩ => ?_
  subst he
  exact ⟨_, rfl, _, _, _, [], _, [], hW', trodAll_mk1 (shut_bool Try.underlying4 _), (trodAll_cons_mk (Below.trod laidOut (by kernel_rfl) (of_decide_eq_true (by kernel_rfl)) k0 bel lt0) (trodAll_cons_mk (Below.trod laidOut (by kernel_rfl) (of_decide_eq_true (by kernel_rfl)) k1 bel lt1) (trodAll_cons_mk (shut_int Try.underlying3 w2) trodAll_mk0))), rfl, bel.frame _, fun h => by cases h⟩

theorem over : Rows.pmemPeeksRow.holds Try.pinned (OpenSpec.ofChange Rows.pmemPeeksSpec) :=
  OpenClaim.holds_of_wide 14 Try.f14 rfl rfl rfl rfl rfl rfl rfl ⟨rfl, rfl, rfl, rfl, rfl⟩ rfl rfl rfl rfl rfl (by kernel_rfl) Try.func14 (by kernel_rfl)
    (of_decide_eq_true (by kernel_rfl)) (by unfold Func.isWrapper; first | (rw [if_pos (by decide +kernel)]; kernel_rfl) | (rw [if_neg (by decide +kernel)]; exact ⟨rfl, rfl⟩))
    (fun os started H enc _ => lifted os started H enc)

theorem proved : Rows.PmemPeeksSaid := over
end Go.Proofs.Ytgeihjiichdpbaa.pmemPeeks
