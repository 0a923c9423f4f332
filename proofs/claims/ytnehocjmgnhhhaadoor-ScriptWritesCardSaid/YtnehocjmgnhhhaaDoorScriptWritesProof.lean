/-
  ScriptWrites answers true: which acts may be written, what is written, and that it is read so; no condition on the input.
  The frame below is the kit's for a law that writes nothing that was there; the walk is in the imported texts.
-/
import Derived.Test.YtnehocjmgnhhhaaDoorRows
import Derived.Test.YtnehocjmgnhhhaaDoorKo
import Derived.Test.YtnehocjmgnhhhaaDoorKp
import Derived.Test.YtnehocjmgnhhhaaDoorLl28w
import Derived.Test.YtnehocjmgnhhhaaDoorTie
import Derived.Test.YtnehocjmgnhhhaaDoorCards
import Derived.Lay
import Derived.SevenTiedAt
import Derived.LaidMore
import Derived.Stop.Joined
import Derived.WalkKit
import Derived.ProofKit
import Derived.OpenShut
import Derived.ShutString
import Derived.ChangeOld
import Derived.Below
namespace Go.Proofs.YtnehocjmgnhhhaaDoor.scriptWrites
open Go.ChangeShapes Go.WideShapes Go.ChangeAt Go.RowKit
open Go.ChangeMaps (open_string shut_string)
set_option linter.unusedVariables false

theorem own : ownKnob Tryd.prog.godebug = none := by kernel_rfl
theorem laidOut : laidOutB Tryd.prog = true := by kernel_rfl

set_option maxRecDepth 100000 in
theorem decAct {H : Type} {enc : TypeId × Value → H} {w : World} {base : Nat} {spare : Nat → Bool} {held : Bool} (cs : List Value) (n : Nat) (x : DataW H × List MemPlace) (h : DataW.trod enc Tryd.prog w base spare held n 57 cs = some x) :
    ∃ y : ActM, cs = cAct y ∧ ((fun a : ActM => a.fits)) y := by
  obtain ⟨ys0, m0, _, _, hlen0, hyl0, hf0⟩ := DataW.trod_struct Tryd.underlying57 h
  have hy0 : ys0.length = 4 := hyl0
  obtain ⟨y0, e0, w0⟩ := K.part_int (off := 0) Tryd.underlying3 (by kernel_rfl) (hf0 0 _ rfl) (by omega)
  have f0 := e0
  obtain ⟨y1, e1, w1⟩ := K.part_int (off := 1) Tryd.underlying3 (by kernel_rfl) (hf0 1 _ rfl) (by omega)
  have f1 := e1
  obtain ⟨y2, e2, w2⟩ := K.part_int (off := 2) Tryd.underlying3 (by kernel_rfl) (hf0 2 _ rfl) (by omega)
  have f2 := e2
  have q0_3 : DataW.trod enc Tryd.prog w base spare held m0 25 ((cs.drop 3).take (Tryd.prog.cellsOf 25)) = ys0[3]? := (hf0 3 _ rfl)
  rw [List.getElem?_eq_getElem (by omega), show Tryd.prog.cellsOf 25 = 3 by kernel_rfl] at q0_3
  obtain ⟨ys1, m1, _, _, hlen1, hyl1, hf1⟩ := DataW.trod_struct Tryd.underlying25 q0_3
  have hy1 : ys1.length = 3 := hyl1
  obtain ⟨y3, e3, w3⟩ := K.part_int (off := 0) Tryd.underlying3 (by kernel_rfl) (hf1 0 _ rfl) (by omega)
  have f3 := K.part_sub (off := 3) (e3)
  obtain ⟨y4, e4, w4⟩ := K.part_int (off := 1) Tryd.underlying23 (by kernel_rfl) (hf1 1 _ rfl) (by omega)
  have f4 := K.part_sub (off := 3) (e4)
  obtain ⟨y5, e5, w5⟩ := K.part_int (off := 2) Tryd.underlying23 (by kernel_rfl) (hf1 2 _ rfl) (by omega)
  have f5 := K.part_sub (off := 3) (e5)
  have htot : cs.length = 6 := hlen0.trans (by kernel_rfl)
  match cs, htot with
  | [c0, c1, c2, c3, c4, c5], _ =>
    simp at f0 f1 f2 f3 f4 f5
    subst f0 f1 f2 f3 f4 f5
    exact ⟨⟨y0, y1, y2, y3, y4, y5⟩, rfl, ⟨bounds_i64 w0, bounds_i64 w1, bounds_i64 w2, bounds_i64 w3, bounds_u32 w4, bounds_u32 w5⟩⟩

set_option maxRecDepth 100000 in
theorem lifted (os : Os) (started : os.Started) (H : Type) (enc : TypeId × Value → H) :
    ReturnsInHanded {} Tryd.checked os 7 .any (fun w args => (Rows.scriptWritesSpec.pre enc Tryd.prog Tryd.f7 Rows.scriptWritesRow.domain false w args ∧ laidMetH Tryd.prog Rows.scriptWritesRow.laid w) ∧ sizedMet enc Tryd.prog Tryd.f7 (OpenSpec.ofChange Rows.scriptWritesSpec) false w args)
      (Rows.scriptWritesSpec.post enc Tryd.prog Tryd.f7 false true false false) := by
  refine returnsInHanded_of_change_and (C := Tryd.checked) (X := fun w _ => laidMetH Tryd.prog Rows.scriptWritesRow.laid w) (fun _ _ _ hh h => h.of_heap hh) own started (by kernel_rfl) Tryd.func7
    (ChangeSpec.witness_shaped (enc := enc) (C := Tryd.checked) (os := os) (X := fun w _ => laidMetH Tryd.prog Rows.scriptWritesRow.laid w) false (World.laidAll Tryd.prog os Rows.scriptWritesRow.laid) #[.slice none 0 0] 8 (World.laidAll_os _ _ _)
      (World.shaped_of_ZipB (by kernel_rfl) (by kernel_rfl)) (by kernel_rfl) (by kernel_rfl) (by kernel_rfl)
      (by rw [MakeChecks.laidMetH_plain _ _ _ (by kernel_rfl)]; exact laidMet_laidAll _ (by kernel_rfl) (by kernel_rfl))) ?_
  intro W base args ds gs before hval0 hW hcnd _ hL _
  have hval : ∀ (j : Nat) t v, Tryd.f7.params[j]? = some t → args[j]? = some v → Value.okWide Tryd.prog W .any base t v := hval0
  have hW' := hW
  obtain ⟨p, q, hA0, hV, rfl, hfz, hnd⟩ := hW
  have hA : DataW.TrodAll enc Tryd.prog W 0 (fun _ => true) true Tryd.f7.params.toList args.toList ds p := hA0
  rw [Tryd.params7] at hA hval
  obtain ⟨v0, vs0, d0, ds0, p0, q0, hargs, rfl, rfl, h0, r0⟩ := trodAll_cons hA
  obtain ⟨rfl, rfl, rfl⟩ := trodAll_nil r0
  obtain rfl : args = #[v0] := by cases args; simp_all
  obtain ⟨rfl, rfl⟩ := trodVars_none hV
  have k0 := h0
  have lt0 : ∀ x ∈ p0, x.block < W.heap.size := by obtain ⟨m, hm⟩ := k0; exact DataW.trod_lt m _ _ _ hm
  obtain ⟨a0, len0, cap0, rfl⟩ := okWide_slice Tryd.underlying54 (hval 0 54 v0 rfl rfl)
  obtain ⟨L0, l0, w0, g0, m0, c0⟩ := K.row_of_trod cAct act0 ((fun a : ActM => a.fits)) (size := 6) Tryd.underlying54 (by kernel_rfl) (by decide) decAct h0
  obtain rfl := l0
  clear hA0 hval0
  have hf : allAf L0 := fun q => by
    rcases Nat.lt_or_ge q L0.length with h | h
    · exact g0 q h
    · rw [List.getD_eq_getElem?_getD, List.getElem?_eq_none h]; exact ⟨by unfold isI64; decide, by unfold isI64; decide, by unfold isI64; decide, by unfold isI64; decide, by decide, by decide⟩
  refine (calls_of_kc (K.GC.law (lawsw_ok W a0 cap0 L0 c0 hf w0))).mono fun e W' ⟨he, bel⟩ => ?_
  subst he
  exact ⟨_, rfl, _, _, _, [], _, [], hW', trodAll_mk1 (shut_bool Tryd.underlying4 _), (trodAll_cons_mk (Below.trod laidOut (by kernel_rfl) (of_decide_eq_true (by kernel_rfl)) k0 bel lt0) trodAll_mk0), rfl, bel.frame _, fun h => by cases h⟩

theorem over : Rows.scriptWritesRow.holds Tryd.pinned (OpenSpec.ofChange Rows.scriptWritesSpec) :=
  OpenClaim.holds_of_wide 7 Tryd.f7 rfl rfl rfl rfl rfl rfl rfl ⟨rfl, rfl, rfl, rfl, rfl⟩ rfl rfl rfl rfl rfl (by kernel_rfl) Tryd.func7 (by kernel_rfl)
    (of_decide_eq_true (by kernel_rfl)) (by unfold Func.isWrapper; first | (rw [if_pos (by decide +kernel)]; kernel_rfl) | (rw [if_neg (by decide +kernel)]; exact ⟨rfl, rfl⟩))
    (fun os started H enc _ => lifted os started H enc)

theorem proved : Rows.ScriptWritesCardSaid :=
  Claim7.holds_tied_plain_at .later [] [.data, .pinned] true (true, "60a717260ae1f1725b3793e5454714660961117308b7f5eccd909dbde8eaeba5") false
    over (fun _ h => by cases h) (by kernel_rfl) (fun _ h => by cases h) scriptWrites_row_tie rfl ⟨rfl, rfl⟩ (by kernel_rfl) rfl
    (fun f fn hf hfn => by
      obtain rfl : f = 7 := Option.some.inj ((show Tryd.prog.funcNamed Rows.scriptWritesRow.func = some 7 by kernel_rfl).symm.trans hf) |>.symm
      obtain rfl : fn = Tryd.f7 := (Option.some.inj (Tryd.func7.symm.trans hfn)).symm
      exact ⟨by kernel_rfl, fun j t ht => by
        rw [Tryd.params7] at ht
        have hm : t ∈ [54] := by simpa using Array.mem_of_getElem? ht
        have hall : ([54].all fun u => !Tryd.prog.wantsStandIn u) = true := by kernel_rfl
        exact (show Tryd.prog.wantsStandIn t = false by simpa using List.all_eq_true.1 hall t hm)⟩)
    (by kernel_rfl)
end Go.Proofs.YtnehocjmgnhhhaaDoor.scriptWrites
