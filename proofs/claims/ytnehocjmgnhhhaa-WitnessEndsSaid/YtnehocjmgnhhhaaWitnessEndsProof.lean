/-
  WitnessEnds answers true: whether a history is linear, and the states behind all orders by which it is; no condition on the input.
  The frame below is the kit's for a law that writes nothing that was there; the walk is in the imported texts.
-/
import Derived.Test.YtnehocjmgnhhhaaRows
import Derived.Test.YtnehocjmgnhhhaaKr
import Derived.Test.YtnehocjmgnhhhaaLl25e
import Derived.WalkKit
import Derived.ProofKit
import Derived.OpenShut
import Derived.ShutString
import Derived.ChangeOld
import Derived.Below
namespace Go.Proofs.Ytnehocjmgnhhhaa.witnessEnds
open Go.ChangeShapes Go.WideShapes Go.ChangeAt Go.RowKit
open Go.ChangeMaps (open_string shut_string)
set_option linter.unusedVariables false

theorem own : ownKnob Try.prog.godebug = none := by kernel_rfl
theorem laidOut : laidOutB Try.prog = true := by kernel_rfl

set_option maxRecDepth 100000 in
theorem decPair {H : Type} {enc : TypeId × Value → H} {w : World} {base : Nat} {spare : Nat → Bool} {held : Bool} (cs : List Value) (n : Nat) (x : DataW H × List MemPlace) (h : DataW.trod enc Try.prog w base spare held n 59 cs = some x) :
    ∃ y : PairM, cs = cPair y ∧ (fun _ => True) y := by
  obtain ⟨ys0, m0, _, _, hlen0, hyl0, hf0⟩ := DataW.trod_struct Try.underlying59 h
  have hy0 : ys0.length = 2 := hyl0
  obtain ⟨y0, e0, w0⟩ := K.part_int (off := 0) Try.underlying45 (by kernel_rfl) (hf0 0 _ rfl) (by omega)
  have f0 := e0
  obtain ⟨y1, e1, w1⟩ := K.part_int (off := 1) Try.underlying45 (by kernel_rfl) (hf0 1 _ rfl) (by omega)
  have f1 := e1
  have htot : cs.length = 2 := hlen0.trans (by kernel_rfl)
  match cs, htot with
  | [c0, c1], _ =>
    simp at f0 f1
    subst f0 f1
    exact ⟨⟨y0, y1⟩, rfl, trivial⟩

theorem part_slice {H : Type} {enc : TypeId × Value → H} {w : World} {base : Nat} {spare : Nat → Bool} {held : Bool} {α : Type} (c : α → List Value) (d : α) {size : Nat} {t e : TypeId} {cs : List Value} {n : Nat} {x : DataW H × List MemPlace} (ht : Try.prog.underlying t = some (.slice e)) (hC : Try.prog.cellsOf e = size) (h0 : 0 < size)
    (hdec : ∀ (cs : List Value) n x, DataW.trod enc Try.prog w base spare held n e cs = some x → ∃ y, cs = c y ∧ True) (h : DataW.trod enc Try.prog w base spare held n t cs = some x) :
    ∃ (a : Option Addr) (cap : Nat) (l : List α), cs = [.slice a l.length cap] ∧ K.RowE w a l.length size (fun i => c (l.getD i d)) ∧ l.length ≤ cap := by
  obtain ⟨a, len, cap, rfl, hcap⟩ : ∃ a len cap, cs = [.slice a len cap] ∧ len ≤ cap := by
    rcases Go.Deep.open_slice ht h with ⟨hcs, _⟩ | ⟨b, l, cp, m, n', Dd, Pl, hcs, _, hle, _⟩
    · exact ⟨none, 0, 0, hcs, Nat.le_refl _⟩
    · exact ⟨some b, l, cp, hcs, hle⟩
  obtain ⟨l, rfl, h1, _⟩ := K.row_of_trod c d (fun _ => True) (a := a) (len := len) (cap := cap) (D := x.1) (p := x.2) ht hC h0 hdec ⟨n, h⟩
  exact ⟨a, cap, l, rfl, h1, hcap⟩
structure StA where
  q : Option Addr
  s : Option Addr
  m : Option Addr
  cq : Nat
  cs : Nat
  cm : Nat
  qa : List Int
  sa : List Int
  ma : List PairM
def cStA (y : StA) : List Value := [.slice y.q y.qa.length y.cq, .slice y.s y.sa.length y.cs, .slice y.m y.ma.length y.cm]
def goodSt (w : World) (y : StA) : Prop := RU32 w y.q y.qa ∧ RU32 w y.s y.sa ∧ RPr w y.m y.ma ∧ y.qa.length ≤ y.cq
set_option maxRecDepth 100000 in
theorem decSt {H : Type} {enc : TypeId × Value → H} {w : World} {base : Nat} {spare : Nat → Bool} {held : Bool} (cs : List Value) (n : Nat) (x : DataW H × List MemPlace) (h : DataW.trod enc Try.prog w base spare held n 30 cs = some x) :
    ∃ y : StA, cs = cStA y ∧ goodSt w y := by
  obtain ⟨ys, m, _, _, hlen, hyl, hf⟩ := DataW.trod_struct Try.underlying30 h
  have hy : ys.length = 3 := hyl
  have q0 : DataW.trod enc Try.prog w base spare held m 27 ((cs.drop 0).take (Try.prog.cellsOf 27)) = _ := hf 0 _ rfl
  rw [List.getElem?_eq_getElem (by omega), show Try.prog.cellsOf 27 = 1 by kernel_rfl] at q0
  have q1 : DataW.trod enc Try.prog w base spare held m 27 ((cs.drop 1).take (Try.prog.cellsOf 27)) = _ := hf 1 _ rfl
  rw [List.getElem?_eq_getElem (by omega), show Try.prog.cellsOf 27 = 1 by kernel_rfl] at q1
  have q2 : DataW.trod enc Try.prog w base spare held m 28 ((cs.drop 2).take (Try.prog.cellsOf 28)) = _ := hf 2 _ rfl
  rw [List.getElem?_eq_getElem (by omega), show Try.prog.cellsOf 28 = 1 by kernel_rfl] at q2
  have d32 : ∀ (cs : List Value) n x, DataW.trod enc Try.prog w base spare held n 45 cs = some x → ∃ y, cs = cU32 y ∧ True := fun cs n x h => by obtain ⟨y, h, _⟩ := K.dec_int Try.underlying45 cU32 (fun _ => rfl) cs n x h; exact ⟨y, h, trivial⟩
  obtain ⟨a0, c0, l0, e0, r0, z0⟩ := part_slice cU32 (0 : Int) (size := 1) Try.underlying27 (by kernel_rfl) (by decide) d32 q0
  obtain ⟨a1, c1, l1, e1, r1, z1⟩ := part_slice cU32 (0 : Int) (size := 1) Try.underlying27 (by kernel_rfl) (by decide) d32 q1
  obtain ⟨a2, c2, l2, e2, r2, z2⟩ := part_slice cPair p0 (size := 2) Try.underlying28 (by kernel_rfl) (by decide) decPair q2
  have htot : cs.length = 3 := hlen.trans (by kernel_rfl)
  match cs, htot with
  | [k0, k1, k2], _ =>
    simp at e0 e1 e2
    subst e0 e1 e2
    exact ⟨⟨a0, a1, a2, c0, c1, c2, l0, l1, l2⟩, rfl, r0, r1, r2, z0⟩
set_option maxRecDepth 100000 in
theorem decCall {H : Type} {enc : TypeId × Value → H} {w : World} {base : Nat} {spare : Nat → Bool} {held : Bool} (cs : List Value) (n : Nat) (x : DataW H × List MemPlace) (h : DataW.trod enc Try.prog w base spare held n 51 cs = some x) :
    ∃ y : CallM, cs = cCall y ∧ (fun _ => True) y := by
  obtain ⟨ys0, m0, _, _, hlen0, hyl0, hf0⟩ := DataW.trod_struct Try.underlying51 h
  have hy0 : ys0.length = 8 := hyl0
  obtain ⟨y0, e0, w0⟩ := K.part_int (off := 0) Try.underlying3 (by kernel_rfl) (hf0 0 _ rfl) (by omega)
  have f0 := e0
  have q0_1 : DataW.trod enc Try.prog w base spare held m0 47 ((cs.drop 1).take (Try.prog.cellsOf 47)) = ys0[1]? := (hf0 1 _ rfl)
  rw [List.getElem?_eq_getElem (by omega), show Try.prog.cellsOf 47 = 3 by kernel_rfl] at q0_1
  obtain ⟨ys1, m1, _, _, hlen1, hyl1, hf1⟩ := DataW.trod_struct Try.underlying47 q0_1
  have hy1 : ys1.length = 3 := hyl1
  obtain ⟨y1, e1, w1⟩ := K.part_int (off := 0) Try.underlying3 (by kernel_rfl) (hf1 0 _ rfl) (by omega)
  have f1 := K.part_sub (off := 1) (e1)
  obtain ⟨y2, e2, w2⟩ := K.part_int (off := 1) Try.underlying45 (by kernel_rfl) (hf1 1 _ rfl) (by omega)
  have f2 := K.part_sub (off := 1) (e2)
  obtain ⟨y3, e3, w3⟩ := K.part_int (off := 2) Try.underlying45 (by kernel_rfl) (hf1 2 _ rfl) (by omega)
  have f3 := K.part_sub (off := 1) (e3)
  have q0_2 : DataW.trod enc Try.prog w base spare held m0 49 ((cs.drop 4).take (Try.prog.cellsOf 49)) = ys0[2]? := (hf0 2 _ rfl)
  rw [List.getElem?_eq_getElem (by omega), show Try.prog.cellsOf 49 = 2 by kernel_rfl] at q0_2
  obtain ⟨ys2, m2, _, _, hlen2, hyl2, hf2⟩ := DataW.trod_struct Try.underlying49 q0_2
  have hy2 : ys2.length = 2 := hyl2
  obtain ⟨y4, e4, w4⟩ := K.part_int (off := 0) Try.underlying3 (by kernel_rfl) (hf2 0 _ rfl) (by omega)
  have f4 := K.part_sub (off := 4) (e4)
  obtain ⟨y5, e5, w5⟩ := K.part_int (off := 1) Try.underlying45 (by kernel_rfl) (hf2 1 _ rfl) (by omega)
  have f5 := K.part_sub (off := 4) (e5)
  obtain ⟨y6, e6, w6⟩ := K.part_int (off := 6) Try.underlying3 (by kernel_rfl) (hf0 3 _ rfl) (by omega)
  have f6 := e6
  obtain ⟨y7, e7, w7⟩ := K.part_int (off := 7) Try.underlying3 (by kernel_rfl) (hf0 4 _ rfl) (by omega)
  have f7 := e7
  obtain ⟨y8, e8, w8⟩ := K.part_int (off := 8) Try.underlying3 (by kernel_rfl) (hf0 5 _ rfl) (by omega)
  have f8 := e8
  obtain ⟨y9, e9, w9⟩ := K.part_bool (off := 9) Try.underlying4 (by kernel_rfl) (hf0 6 _ rfl) (by omega)
  have f9 := e9
  obtain ⟨y10, e10, w10⟩ := K.part_bool (off := 10) Try.underlying4 (by kernel_rfl) (hf0 7 _ rfl) (by omega)
  have f10 := e10
  have htot : cs.length = 11 := hlen0.trans (by kernel_rfl)
  match cs, htot with
  | [c0, c1, c2, c3, c4, c5, c6, c7, c8, c9, c10], _ =>
    simp at f0 f1 f2 f3 f4 f5 f6 f7 f8 f9 f10
    subst f0 f1 f2 f3 f4 f5 f6 f7 f8 f9 f10
    exact ⟨⟨y0, y1, y2, y3, y4, y5, y6, y7, y8, y9, y10⟩, rfl, trivial⟩

set_option maxRecDepth 100000 in
theorem lifted (os : Os) (started : os.Started) (H : Type) (enc : TypeId × Value → H) :
    ReturnsInHanded {} Try.checked os 5 .any (Rows.witnessEndsSpec.pre6 enc Try.prog Try.f5 Rows.witnessEndsRow.domain false) (Rows.witnessEndsSpec.post enc Try.prog Try.f5 false true false false) := by
  refine returnsInHanded_of_change (C := Try.checked) own started (by kernel_rfl) Try.func5
    (ChangeSpec.witness6 (enc := enc) (C := Try.checked) false ⟨#[], #[.agg #[.slice none 0 0, .slice none 0 0, .slice none 0 0], .slice none 0 0], []⟩ 8 (by kernel_rfl) (by kernel_rfl) (by kernel_rfl) (by kernel_rfl)) ?_
  intro W base args ds gs before hval0 hW hcnd _
  have hval : ∀ (j : Nat) t v, Try.f5.params[j]? = some t → args[j]? = some v → Value.okWide Try.prog W .any base t v := hval0
  have hW' := hW
  obtain ⟨p, q, hA0, hV, rfl, hfz, hnd⟩ := hW
  have hA : DataW.TrodAll enc Try.prog W 0 (fun _ => true) true Try.f5.params.toList args.toList ds p := hA0
  rw [Try.params5] at hA hval
  obtain ⟨v0, vs0, d0, ds0, p0, q0, hargs, rfl, rfl, h0, r0⟩ := trodAll_cons hA
  obtain ⟨v1, vs1, d1, ds1, p1, q1, rfl, rfl, rfl, h1, r1⟩ := trodAll_cons r0
  obtain ⟨rfl, rfl, rfl⟩ := trodAll_nil r1
  obtain rfl : args = #[v0, v1] := by cases args; simp_all
  obtain ⟨rfl, rfl⟩ := trodVars_none hV
  have k0 := h0
  have lt0 : ∀ x ∈ p0, x.block < W.heap.size := by obtain ⟨m, hm⟩ := k0; exact DataW.trod_lt m _ _ _ hm
  obtain ⟨a0, l0, g0⟩ := K.agg_of_trod cStA (goodSt W) (K.okWide_agg (by kernel_rfl) (hval 0 30 v0 rfl rfl)) decSt h0
  obtain rfl := l0
  have k1 := h1
  have lt1 : ∀ x ∈ p1, x.block < W.heap.size := by obtain ⟨m, hm⟩ := k1; exact DataW.trod_lt m _ _ _ hm
  obtain ⟨a1, len1, cap1, rfl⟩ := okWide_slice Try.underlying22 (hval 1 22 v1 rfl rfl)
  obtain ⟨L1, l1, w1, g1, m1, c1⟩ := K.row_of_trod cCall call0 (fun _ => True) (size := 11) Try.underlying22 (by kernel_rfl) (by decide) decCall h1
  obtain rfl := l1
  clear hA0 hval0
  refine (calls_of_kc (K.GC.law (lawwe_ok W a0.q a0.s a0.m a1 a0.cq a0.cs a0.cm cap1 ⟨a0.qa, a0.sa, a0.ma⟩ L1 g0.1 g0.2.1 g0.2.2.1 g0.2.2.2 w1))).mono fun e W' ⟨he, bel⟩ => ?_
  subst he
  exact ⟨_, rfl, _, _, _, [], _, [], hW', trodAll_mk1 (shut_bool Try.underlying4 _), (trodAll_cons_mk (Below.trod laidOut (by kernel_rfl) (of_decide_eq_true (by kernel_rfl)) k0 bel lt0) (trodAll_cons_mk (Below.trod laidOut (by kernel_rfl) (of_decide_eq_true (by kernel_rfl)) k1 bel lt1) trodAll_mk0)), rfl, bel.frame _, fun h => by cases h⟩

theorem over : Rows.witnessEndsRow.holds Try.pinned (OpenSpec.ofChange Rows.witnessEndsSpec) :=
  OpenClaim.holds_of_wide 5 Try.f5 rfl rfl rfl rfl rfl rfl rfl ⟨rfl, rfl, rfl, rfl, rfl⟩ rfl rfl rfl rfl rfl (by kernel_rfl) Try.func5 (by kernel_rfl)
    (of_decide_eq_true (by kernel_rfl)) (by unfold Func.isWrapper; first | (rw [if_pos (by decide +kernel)]; kernel_rfl) | (rw [if_neg (by decide +kernel)]; exact ⟨rfl, rfl⟩))
    (fun os started H enc _ => lifted os started H enc)

theorem proved : Rows.WitnessEndsSaid := over
end Go.Proofs.Ytnehocjmgnhhhaa.witnessEnds
