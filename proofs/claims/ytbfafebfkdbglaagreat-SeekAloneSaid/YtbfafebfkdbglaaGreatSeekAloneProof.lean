/-
  SeekAlone answers true: alone, in a list whose keys rise, a seek finds just the keys of slots that were not taken away, and those that were, up to the key, are in the list no more; no condition on the input.
  The frame below is the kit's for a law that writes nothing that was there; the walk is in the imported texts.
-/
import Derived.Test.YtbfafebfkdbglaaGreatRows
import Derived.Test.YtbfafebfkdbglaaGreatKo
import Derived.Test.YtbfafebfkdbglaaGreatKp
import Derived.Test.YtbfafebfkdbglaaGreatLl14a
import Derived.WalkKit
import Derived.ProofKit
import Derived.OpenShut
import Derived.ShutString
import Derived.ChangeOld
import Derived.Below
namespace Go.Proofs.YtbfafebfkdbglaaGreat.seekAlone
open Go.ChangeShapes Go.WideShapes Go.ChangeAt Go.RowKit
open Go.ChangeMaps (open_string shut_string)
set_option linter.unusedVariables false

theorem own : ownKnob Tryz.prog.godebug = none := by kernel_rfl
theorem laidOut : laidOutB Tryz.prog = true := by kernel_rfl

theorem part_slice {H : Type} {enc : TypeId × Value → H} {w : World} {base : Nat} {spare : Nat → Bool} {held : Bool} {α : Type} (c : α → List Value) (d : α) (good : α → Prop) {size : Nat} {t e : TypeId} {cs : List Value} {n : Nat} {x : DataW H × List MemPlace} (ht : Tryz.prog.underlying t = some (.slice e)) (hC : Tryz.prog.cellsOf e = size) (h0 : 0 < size)
    (hdec : ∀ (cs : List Value) n x, DataW.trod enc Tryz.prog w base spare held n e cs = some x → ∃ y, cs = c y ∧ good y) (h : DataW.trod enc Tryz.prog w base spare held n t cs = some x) :
    ∃ (a : Option Addr) (cap : Nat) (l : List α), cs = [.slice a l.length cap] ∧ K.RowE w a l.length size (fun i => c (l.getD i d)) ∧ (∀ i, i < l.length → good (l.getD i d)) ∧ l.length ≤ 9223372036854775807 ∧ l.length ≤ cap := by
  obtain ⟨a, len, cap, rfl⟩ : ∃ a len cap, cs = [.slice a len cap] := by
    rcases Go.Deep.open_slice ht h with ⟨hcs, _⟩ | ⟨b, l, cp, m, n', Dd, Pl, hcs, _⟩
    · exact ⟨none, 0, 0, hcs⟩
    · exact ⟨some b, l, cp, hcs⟩
  obtain ⟨l, rfl, h1, h2, h3, h4⟩ := K.row_of_trod c d good (a := a) (len := len) (cap := cap) (D := x.1) (p := x.2) ht hC h0 hdec ⟨n, h⟩
  exact ⟨a, cap, l, rfl, h1, h2, h3, h4⟩
set_option maxRecDepth 100000 in
theorem decCfg {H : Type} {enc : TypeId × Value → H} {w : World} {base : Nat} {spare : Nat → Bool} {held : Bool} (cs : List Value) (n : Nat) (x : DataW H × List MemPlace) (h : DataW.trod enc Tryz.prog w base spare held n 23 cs = some x) :
    ∃ y : Cfg, cs = cCfg y ∧ ((fun c : Cfg => isInt c.th ∧ isInt c.sl ∧ isInt c.lo ∧ isInt c.bu)) y := by
  obtain ⟨ys0, m0, _, _, hlen0, hyl0, hf0⟩ := DataW.trod_struct Tryz.underlying23 h
  have hy0 : ys0.length = 4 := hyl0
  obtain ⟨y0, e0, w0⟩ := K.part_int (off := 0) Tryz.underlying3 (by kernel_rfl) (hf0 0 _ rfl) (by omega)
  have f0 := e0
  obtain ⟨y1, e1, w1⟩ := K.part_int (off := 1) Tryz.underlying3 (by kernel_rfl) (hf0 1 _ rfl) (by omega)
  have f1 := e1
  obtain ⟨y2, e2, w2⟩ := K.part_int (off := 2) Tryz.underlying3 (by kernel_rfl) (hf0 2 _ rfl) (by omega)
  have f2 := e2
  obtain ⟨y3, e3, w3⟩ := K.part_int (off := 3) Tryz.underlying3 (by kernel_rfl) (hf0 3 _ rfl) (by omega)
  have f3 := e3
  have htot : cs.length = 4 := hlen0.trans (by kernel_rfl)
  match cs, htot with
  | [c0, c1, c2, c3], _ =>
    simp at f0 f1 f2 f3
    subst f0 f1 f2 f3
    exact ⟨⟨y0, y1, y2, y3⟩, rfl, ⟨bounds_i64 w0, bounds_i64 w1, bounds_i64 w2, bounds_i64 w3⟩⟩
set_option maxRecDepth 100000 in
theorem decNode {H : Type} {enc : TypeId × Value → H} {w : World} {base : Nat} {spare : Nat → Bool} {held : Bool} (cs : List Value) (n : Nat) (x : DataW H × List MemPlace) (h : DataW.trod enc Tryz.prog w base spare held n 46 cs = some x) :
    ∃ y : NodeM, cs = cNode y ∧ ((fun y : NodeM => (0 ≤ y.key ∧ y.key ≤ 4294967295) ∧ isInt y.by_)) y := by
  obtain ⟨ys0, m0, _, _, hlen0, hyl0, hf0⟩ := DataW.trod_struct Tryz.underlying46 h
  have hy0 : ys0.length = 2 := hyl0
  obtain ⟨y0, e0, w0⟩ := K.part_int (off := 0) Tryz.underlying25 (by kernel_rfl) (hf0 0 _ rfl) (by omega)
  have f0 := e0
  obtain ⟨y1, e1, w1⟩ := K.part_int (off := 1) Tryz.underlying3 (by kernel_rfl) (hf0 1 _ rfl) (by omega)
  have f1 := e1
  have htot : cs.length = 2 := hlen0.trans (by kernel_rfl)
  match cs, htot with
  | [c0, c1], _ =>
    simp at f0 f1
    subst f0 f1
    exact ⟨⟨y0, y1⟩, rfl, ⟨bounds_u32 w0, bounds_i64 w1⟩⟩

structure KeyA where
  k : Int
  a : Option Addr
  cp : Nat
  ds : List Bool
def cKeyA (y : KeyA) : List Value := [.int .u32 y.k, .slice y.a y.ds.length y.cp]
def goodKey (w : World) (y : KeyA) : Prop := (0 ≤ y.k ∧ y.k ≤ 4294967295) ∧ K.RowE w y.a y.ds.length 1 (fun i => cBool (y.ds.getD i false)) ∧ y.ds.length ≤ 9223372036854775807
theorem decB {H : Type} {enc : TypeId × Value → H} {w : World} {base : Nat} {spare : Nat → Bool} {held : Bool} (cs : List Value) (n : Nat) (x : DataW H × List MemPlace) (h : DataW.trod enc Tryz.prog w base spare held n 4 cs = some x) : ∃ y, cs = cBool y ∧ True := by
  obtain ⟨y, h1, _⟩ := DataW.trod_bool Tryz.underlying4 h
  exact ⟨y, h1, trivial⟩
set_option maxRecDepth 100000 in
theorem decKey {H : Type} {enc : TypeId × Value → H} {w : World} {base : Nat} {spare : Nat → Bool} {held : Bool} (cs : List Value) (n : Nat) (x : DataW H × List MemPlace) (h : DataW.trod enc Tryz.prog w base spare held n 28 cs = some x) :
    ∃ y : KeyA, cs = cKeyA y ∧ goodKey w y := by
  obtain ⟨ys, m, _, _, hlen, hyl, hf⟩ := DataW.trod_struct Tryz.underlying28 h
  have hy : ys.length = 2 := hyl
  obtain ⟨y0, e0, w0⟩ := K.part_int (off := 0) Tryz.underlying25 (by kernel_rfl) (hf 0 _ rfl) (by omega)
  have q1 : DataW.trod enc Tryz.prog w base spare held m 26 ((cs.drop 1).take (Tryz.prog.cellsOf 26)) = _ := hf 1 _ rfl
  rw [List.getElem?_eq_getElem (by omega), show Tryz.prog.cellsOf 26 = 1 by kernel_rfl] at q1
  obtain ⟨a1, c1, l1, e1, r1, g1, m1, _⟩ := part_slice cBool false (fun _ => True) (size := 1) Tryz.underlying26 (by kernel_rfl) (by decide) decB q1
  have htot : cs.length = 2 := hlen.trans (by kernel_rfl)
  match cs, htot with
  | [k0, k1], _ =>
    simp at e0 e1
    subst e0 e1
    exact ⟨⟨y0, a1, c1, l1⟩, rfl, bounds_u32 w0, r1, m1⟩

set_option maxRecDepth 100000 in
theorem lifted (os : Os) (started : os.Started) (H : Type) (enc : TypeId × Value → H) :
    ReturnsInHanded {} Tryz.checked os 3 .any (Rows.seekAloneSpec.pre6 enc Tryz.prog Tryz.f3 Rows.seekAloneRow.domain false) (Rows.seekAloneSpec.post enc Tryz.prog Tryz.f3 false true false false) := by
  refine returnsInHanded_of_change (C := Tryz.checked) own started (by kernel_rfl) Tryz.func3
    (ChangeSpec.witness6 (enc := enc) (C := Tryz.checked) false ⟨#[], #[.agg #[.int .i64 0, .int .i64 0, .int .i64 0, .int .i64 0], .slice none 0 0, .agg #[.int .u32 0, .slice none 0 0]], []⟩ 8 (by kernel_rfl) (by kernel_rfl) (by kernel_rfl) (by kernel_rfl)) ?_
  intro W base args ds gs before hval0 hW hcnd _
  have hval : ∀ (j : Nat) t v, Tryz.f3.params[j]? = some t → args[j]? = some v → Value.okWide Tryz.prog W .any base t v := hval0
  have hW' := hW
  obtain ⟨p, q, hA0, hV, rfl, hfz, hnd⟩ := hW
  have hA : DataW.TrodAll enc Tryz.prog W 0 (fun _ => true) true Tryz.f3.params.toList args.toList ds p := hA0
  rw [Tryz.params3] at hA hval
  obtain ⟨v0, vs0, d0, ds0, p0, q0, hargs, rfl, rfl, h0, r0⟩ := trodAll_cons hA
  obtain ⟨v1, vs1, d1, ds1, p1, q1, rfl, rfl, rfl, h1, r1⟩ := trodAll_cons r0
  obtain ⟨v2, vs2, d2, ds2, p2, q2, rfl, rfl, rfl, h2, r2⟩ := trodAll_cons r1
  obtain ⟨rfl, rfl, rfl⟩ := trodAll_nil r2
  obtain rfl : args = #[v0, v1, v2] := by cases args; simp_all
  obtain ⟨rfl, rfl⟩ := trodVars_none hV
  have k0 := h0
  have lt0 : ∀ x ∈ p0, x.block < W.heap.size := by obtain ⟨m, hm⟩ := k0; exact DataW.trod_lt m _ _ _ hm
  obtain ⟨a0, l0, g0⟩ := K.agg_of_trod cCfg ((fun c : Cfg => isInt c.th ∧ isInt c.sl ∧ isInt c.lo ∧ isInt c.bu)) (K.okWide_agg (by kernel_rfl) (hval 0 23 v0 rfl rfl)) decCfg h0
  obtain rfl := l0
  have k1 := h1
  have lt1 : ∀ x ∈ p1, x.block < W.heap.size := by obtain ⟨m, hm⟩ := k1; exact DataW.trod_lt m _ _ _ hm
  obtain ⟨a1, len1, cap1, rfl⟩ := okWide_slice Tryz.underlying24 (hval 1 24 v1 rfl rfl)
  obtain ⟨L1, l1, w1, g1, m1, c1⟩ := K.row_of_trod cNode nd0 ((fun y : NodeM => (0 ≤ y.key ∧ y.key ≤ 4294967295) ∧ isInt y.by_)) (size := 2) Tryz.underlying24 (by kernel_rfl) (by decide) decNode h1
  obtain rfl := l1
  have k2 := h2
  have lt2 : ∀ x ∈ p2, x.block < W.heap.size := by obtain ⟨m, hm⟩ := k2; exact DataW.trod_lt m _ _ _ hm
  obtain ⟨a2, l2, g2⟩ := K.agg_of_trod cKeyA (goodKey W) (K.okWide_agg (by kernel_rfl) (hval 2 28 v2 rfl rfl)) decKey h2
  obtain rfl := l2
  clear hA0 hval0
  refine (calls_of_kc (K.GC.law (l14alone_ok W a0 a1 cap1 L1 g1 m1 w1 a2.k g2.1 a2.a a2.cp a2.ds g2.2.2 g2.2.1))).mono fun e W' ⟨he, bel⟩ => ?_
  subst he
  exact ⟨_, rfl, _, _, _, [], _, [], hW', trodAll_mk1 (shut_bool Tryz.underlying4 _), (trodAll_cons_mk (Below.trod laidOut (by kernel_rfl) (of_decide_eq_true (by kernel_rfl)) k0 bel lt0) (trodAll_cons_mk (Below.trod laidOut (by kernel_rfl) (of_decide_eq_true (by kernel_rfl)) k1 bel lt1) (trodAll_cons_mk (Below.trod laidOut (by kernel_rfl) (of_decide_eq_true (by kernel_rfl)) k2 bel lt2) trodAll_mk0))), rfl, bel.frame _, fun h => by cases h⟩

theorem over : Rows.seekAloneRow.holds Tryz.pinned (OpenSpec.ofChange Rows.seekAloneSpec) :=
  OpenClaim.holds_of_wide 3 Tryz.f3 rfl rfl rfl rfl rfl rfl rfl ⟨rfl, rfl, rfl, rfl, rfl⟩ rfl rfl rfl rfl rfl (by kernel_rfl) Tryz.func3 (by kernel_rfl)
    (of_decide_eq_true (by kernel_rfl)) (by unfold Func.isWrapper; first | (rw [if_pos (by decide +kernel)]; kernel_rfl) | (rw [if_neg (by decide +kernel)]; exact ⟨rfl, rfl⟩))
    (fun os started H enc _ => lifted os started H enc)

theorem proved : Rows.SeekAloneSaid := over
end Go.Proofs.YtbfafebfkdbglaaGreat.seekAlone
