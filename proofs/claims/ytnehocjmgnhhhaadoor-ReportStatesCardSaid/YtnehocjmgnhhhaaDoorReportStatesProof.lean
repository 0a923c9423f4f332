/-
  ReportStates answers true: the text of any state, read back as it was, and one that may not be is told; no condition on the input.
  The frame below is the kit's for a law that writes nothing that was there; the walk is in the imported texts.
-/
import Derived.Test.YtnehocjmgnhhhaaDoorRows
import Derived.Test.YtnehocjmgnhhhaaDoorKo
import Derived.Test.YtnehocjmgnhhhaaDoorKp
import Derived.Test.YtnehocjmgnhhhaaDoorLl29s
import Derived.Test.YtnehocjmgnhhhaaDoorTie
import Derived.Test.YtnehocjmgnhhhaaDoorCards
import Derived.Lay
import Derived.SevenTiedAt
import Derived.LaidMore
import Derived.Stop.Joined
import Derived.WalkKit
import Derived.ProofKit
import Derived.OpenShut
import Derived.ShutString
import Derived.ChangeOld
import Derived.Below
namespace Go.Proofs.YtnehocjmgnhhhaaDoor.reportStates
open Go.ChangeShapes Go.WideShapes Go.ChangeAt Go.RowKit
open Go.ChangeMaps (open_string shut_string)
set_option linter.unusedVariables false

theorem own : ownKnob Tryd.prog.godebug = none := by kernel_rfl
theorem laidOut : laidOutB Tryd.prog = true := by kernel_rfl

set_option maxRecDepth 100000 in
theorem decPair {H : Type} {enc : TypeId × Value → H} {w : World} {base : Nat} {spare : Nat → Bool} {held : Bool} (cs : List Value) (n : Nat) (x : DataW H × List MemPlace) (h : DataW.trod enc Tryd.prog w base spare held n 92 cs = some x) :
    ∃ y : PairM, cs = cPair y ∧ ((fun p : PairM => isP p)) y := by
  obtain ⟨ys0, m0, _, _, hlen0, hyl0, hf0⟩ := DataW.trod_struct Tryd.underlying92 h
  have hy0 : ys0.length = 2 := hyl0
  obtain ⟨y0, e0, w0⟩ := K.part_int (off := 0) Tryd.underlying23 (by kernel_rfl) (hf0 0 _ rfl) (by omega)
  have f0 := e0
  obtain ⟨y1, e1, w1⟩ := K.part_int (off := 1) Tryd.underlying23 (by kernel_rfl) (hf0 1 _ rfl) (by omega)
  have f1 := e1
  have htot : cs.length = 2 := hlen0.trans (by kernel_rfl)
  match cs, htot with
  | [c0, c1], _ =>
    simp at f0 f1
    subst f0 f1
    exact ⟨⟨y0, y1⟩, rfl, ⟨bounds_u32 w0, bounds_u32 w1⟩⟩

theorem part_slice {H : Type} {enc : TypeId × Value → H} {w : World} {base : Nat} {spare : Nat → Bool} {held : Bool} {α : Type} (c : α → List Value) (d : α) (good : α → Prop) (hd : good d) {size : Nat} {t e : TypeId} {cs : List Value} {n : Nat} {x : DataW H × List MemPlace} (ht : Tryd.prog.underlying t = some (.slice e)) (hC : Tryd.prog.cellsOf e = size) (h0 : 0 < size)
    (hdec : ∀ (cs : List Value) n x, DataW.trod enc Tryd.prog w base spare held n e cs = some x → ∃ y, cs = c y ∧ good y) (h : DataW.trod enc Tryd.prog w base spare held n t cs = some x) :
    ∃ (a : Option Addr) (cap : Nat) (l : List α), cs = [.slice a l.length cap] ∧ K.RowE w a l.length size (fun i => c (l.getD i d)) ∧ (∀ i, good (l.getD i d)) := by
  obtain ⟨a, len, cap, rfl⟩ : ∃ a len cap, cs = [.slice a len cap] := by
    rcases Go.Deep.open_slice ht h with ⟨hcs, _⟩ | ⟨b, l, cp, m, n', Dd, Pl, hcs, _⟩
    · exact ⟨none, 0, 0, hcs⟩
    · exact ⟨some b, l, cp, hcs⟩
  obtain ⟨l, rfl, h1, h2, _⟩ := K.row_of_trod c d good (a := a) (len := len) (cap := cap) (D := x.1) (p := x.2) ht hC h0 hdec ⟨n, h⟩
  refine ⟨a, cap, l, rfl, h1, fun i => ?_⟩
  rcases Nat.lt_or_ge i l.length with hi | hi
  · exact h2 i hi
  · rw [List.getD_eq_getElem?_getD, List.getElem?_eq_none hi]; exact hd
structure StA where
  q : Option Addr
  s : Option Addr
  m : Option Addr
  cq : Nat
  cs : Nat
  cm : Nat
  S : StM
def cStA (y : StA) : List Value := [.slice y.q y.S.q.length y.cq, .slice y.s y.S.s.length y.cs, .slice y.m y.S.m.length y.cm]
def goodSt (w : World) (y : StA) : Prop := RU32 w y.q y.S.q ∧ RU32 w y.s y.S.s ∧ RPr w y.m y.S.m ∧ y.S.fits
set_option maxRecDepth 100000 in
theorem decSt {H : Type} {enc : TypeId × Value → H} {w : World} {base : Nat} {spare : Nat → Bool} {held : Bool} (cs : List Value) (n : Nat) (x : DataW H × List MemPlace) (h : DataW.trod enc Tryd.prog w base spare held n 46 cs = some x) :
    ∃ y : StA, cs = cStA y ∧ goodSt w y := by
  obtain ⟨ys, m, _, _, hlen, hyl, hf⟩ := DataW.trod_struct Tryd.underlying46 h
  have hy : ys.length = 3 := hyl
  have q0 : DataW.trod enc Tryd.prog w base spare held m 43 ((cs.drop 0).take (Tryd.prog.cellsOf 43)) = _ := hf 0 _ rfl
  rw [List.getElem?_eq_getElem (by omega), show Tryd.prog.cellsOf 43 = 1 by kernel_rfl] at q0
  have q1 : DataW.trod enc Tryd.prog w base spare held m 43 ((cs.drop 1).take (Tryd.prog.cellsOf 43)) = _ := hf 1 _ rfl
  rw [List.getElem?_eq_getElem (by omega), show Tryd.prog.cellsOf 43 = 1 by kernel_rfl] at q1
  have q2 : DataW.trod enc Tryd.prog w base spare held m 44 ((cs.drop 2).take (Tryd.prog.cellsOf 44)) = _ := hf 2 _ rfl
  rw [List.getElem?_eq_getElem (by omega), show Tryd.prog.cellsOf 44 = 1 by kernel_rfl] at q2
  have d32 : ∀ (cs : List Value) n x, DataW.trod enc Tryd.prog w base spare held n 23 cs = some x → ∃ y, cs = cU32 y ∧ isU32 y := fun cs n x h => by obtain ⟨y, h, w⟩ := K.dec_int Tryd.underlying23 cU32 (fun _ => rfl) cs n x h; exact ⟨y, h, bounds_u32 w⟩
  obtain ⟨a0, c0, l0, e0, r0, z0⟩ := part_slice cU32 (0 : Int) isU32 (by decide) (size := 1) Tryd.underlying43 (by kernel_rfl) (by decide) d32 q0
  obtain ⟨a1, c1, l1, e1, r1, z1⟩ := part_slice cU32 (0 : Int) isU32 (by decide) (size := 1) Tryd.underlying43 (by kernel_rfl) (by decide) d32 q1
  obtain ⟨a2, c2, l2, e2, r2, z2⟩ := part_slice cPair p0 isP ⟨by decide, by decide⟩ (size := 2) Tryd.underlying44 (by kernel_rfl) (by decide) decPair q2
  have htot : cs.length = 3 := hlen.trans (by kernel_rfl)
  match cs, htot with
  | [k0, k1, k2], _ =>
    simp at e0 e1 e2
    subst e0 e1 e2
    exact ⟨⟨a0, a1, a2, c0, c1, c2, ⟨l0, l1, l2⟩⟩, rfl, r0, r1, r2, z0, z1, z2⟩

set_option maxRecDepth 100000 in
theorem lifted (os : Os) (started : os.Started) (H : Type) (enc : TypeId × Value → H) :
    ReturnsInHanded {} Tryd.checked os 5 .any (fun w args => (Rows.reportStatesSpec.pre enc Tryd.prog Tryd.f5 Rows.reportStatesRow.domain false w args ∧ laidMetH Tryd.prog Rows.reportStatesRow.laid w) ∧ sizedMet enc Tryd.prog Tryd.f5 (OpenSpec.ofChange Rows.reportStatesSpec) false w args)
      (Rows.reportStatesSpec.post enc Tryd.prog Tryd.f5 false true false false) := by
  refine returnsInHanded_of_change_and (C := Tryd.checked) (X := fun w _ => laidMetH Tryd.prog Rows.reportStatesRow.laid w) (fun _ _ _ hh h => h.of_heap hh) own started (by kernel_rfl) Tryd.func5
    (ChangeSpec.witness_shaped (enc := enc) (C := Tryd.checked) (os := os) (X := fun w _ => laidMetH Tryd.prog Rows.reportStatesRow.laid w) false (World.laidAll Tryd.prog os Rows.reportStatesRow.laid) #[.agg #[.slice none 0 0, .slice none 0 0, .slice none 0 0]] 8 (World.laidAll_os _ _ _)
      (World.shaped_of_ZipB (by kernel_rfl) (by kernel_rfl)) (by kernel_rfl) (by kernel_rfl) (by kernel_rfl)
      (by rw [MakeChecks.laidMetH_plain _ _ _ (by kernel_rfl)]; exact laidMet_laidAll _ (by kernel_rfl) (by kernel_rfl))) ?_
  intro W base args ds gs before hval0 hW hcnd _ hL _
  have hval : ∀ (j : Nat) t v, Tryd.f5.params[j]? = some t → args[j]? = some v → Value.okWide Tryd.prog W .any base t v := hval0
  have hW' := hW
  obtain ⟨p, q, hA0, hV, rfl, hfz, hnd⟩ := hW
  have hA : DataW.TrodAll enc Tryd.prog W 0 (fun _ => true) true Tryd.f5.params.toList args.toList ds p := hA0
  rw [Tryd.params5] at hA hval
  obtain ⟨v0, vs0, d0, ds0, p0, q0, hargs, rfl, rfl, h0, r0⟩ := trodAll_cons hA
  obtain ⟨rfl, rfl, rfl⟩ := trodAll_nil r0
  obtain rfl : args = #[v0] := by cases args; simp_all
  obtain ⟨rfl, rfl⟩ := trodVars_none hV
  have k0 := h0
  have lt0 : ∀ x ∈ p0, x.block < W.heap.size := by obtain ⟨m, hm⟩ := k0; exact DataW.trod_lt m _ _ _ hm
  obtain ⟨a0, l0, g0⟩ := K.agg_of_trod cStA (goodSt W) (K.okWide_agg (by kernel_rfl) (hval 0 46 v0 rfl rfl)) decSt h0
  obtain rfl := l0
  clear hA0 hval0
  refine (calls_of_kc (K.GC.law (lawrs_ok W a0.q a0.s a0.m a0.cq a0.cs a0.cm a0.S g0.2.2.2 g0.1 g0.2.1 g0.2.2.1))).mono fun e W' ⟨he, bel⟩ => ?_
  subst he
  exact ⟨_, rfl, _, _, _, [], _, [], hW', trodAll_mk1 (shut_bool Tryd.underlying4 _), (trodAll_cons_mk (Below.trod laidOut (by kernel_rfl) (of_decide_eq_true (by kernel_rfl)) k0 bel lt0) trodAll_mk0), rfl, bel.frame _, fun h => by cases h⟩

theorem over : Rows.reportStatesRow.holds Tryd.pinned (OpenSpec.ofChange Rows.reportStatesSpec) :=
  OpenClaim.holds_of_wide 5 Tryd.f5 rfl rfl rfl rfl rfl rfl rfl ⟨rfl, rfl, rfl, rfl, rfl⟩ rfl rfl rfl rfl rfl (by kernel_rfl) Tryd.func5 (by kernel_rfl)
    (of_decide_eq_true (by kernel_rfl)) (by unfold Func.isWrapper; first | (rw [if_pos (by decide +kernel)]; kernel_rfl) | (rw [if_neg (by decide +kernel)]; exact ⟨rfl, rfl⟩))
    (fun os started H enc _ => lifted os started H enc)

theorem proved : Rows.ReportStatesCardSaid :=
  Claim7.holds_tied_plain_at .later [] [.data, .pinned] true (true, "60a717260ae1f1725b3793e5454714660961117308b7f5eccd909dbde8eaeba5") false
    over (fun _ h => by cases h) (by kernel_rfl) (fun _ h => by cases h) reportStates_row_tie rfl ⟨rfl, rfl⟩ (by kernel_rfl) rfl
    (fun f fn hf hfn => by
      obtain rfl : f = 5 := Option.some.inj ((show Tryd.prog.funcNamed Rows.reportStatesRow.func = some 5 by kernel_rfl).symm.trans hf) |>.symm
      obtain rfl : fn = Tryd.f5 := (Option.some.inj (Tryd.func5.symm.trans hfn)).symm
      exact ⟨by kernel_rfl, fun j t ht => by
        rw [Tryd.params5] at ht
        have hm : t ∈ [46] := by simpa using Array.mem_of_getElem? ht
        have hall : ([46].all fun u => !Tryd.prog.wantsStandIn u) = true := by kernel_rfl
        exact (show Tryd.prog.wantsStandIn t = false by simpa using List.all_eq_true.1 hall t hm)⟩)
    (by kernel_rfl)
end Go.Proofs.YtnehocjmgnhhhaaDoor.reportStates
