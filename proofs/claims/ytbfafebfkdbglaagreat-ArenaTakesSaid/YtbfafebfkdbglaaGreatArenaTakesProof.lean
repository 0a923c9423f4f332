/-
  ArenaTakes answers true: each step of a Take, over any memory, whatever others do between, is the document's: its access, what it holds, and the slot that it took; no condition on the input.
  The frame below is the kit's for a law that writes nothing that was there; the walk is in the imported texts.
-/
import Derived.Test.YtbfafebfkdbglaaGreatRows
import Derived.Test.YtbfafebfkdbglaaGreatKq
import Derived.Test.YtbfafebfkdbglaaGreatLl12t
import Derived.WalkKit
import Derived.ProofKit
import Derived.OpenShut
import Derived.ShutString
import Derived.ChangeOld
import Derived.Below
namespace Go.Proofs.YtbfafebfkdbglaaGreat.arenaTakes
open Go.ChangeShapes Go.WideShapes Go.ChangeAt Go.RowKit
open Go.ChangeMaps (open_string shut_string)
set_option linter.unusedVariables false

theorem own : ownKnob Tryz.prog.godebug = none := by kernel_rfl
theorem laidOut : laidOutB Tryz.prog = true := by kernel_rfl

theorem part_slice {H : Type} {enc : TypeId × Value → H} {w : World} {base : Nat} {spare : Nat → Bool} {held : Bool} {α : Type} (c : α → List Value) (d : α) (good : α → Prop) {size : Nat} {t e : TypeId} {cs : List Value} {n : Nat} {x : DataW H × List MemPlace} (ht : Tryz.prog.underlying t = some (.slice e)) (hC : Tryz.prog.cellsOf e = size) (h0 : 0 < size)
    (hdec : ∀ (cs : List Value) n x, DataW.trod enc Tryz.prog w base spare held n e cs = some x → ∃ y, cs = c y ∧ good y) (h : DataW.trod enc Tryz.prog w base spare held n t cs = some x) :
    ∃ (a : Option Addr) (cap : Nat) (l : List α), cs = [.slice a l.length cap] ∧ K.RowE w a l.length size (fun i => c (l.getD i d)) ∧ (∀ i, i < l.length → good (l.getD i d)) ∧ l.length ≤ 9223372036854775807 ∧ l.length ≤ cap := by
  obtain ⟨a, len, cap, rfl⟩ : ∃ a len cap, cs = [.slice a len cap] := by
    rcases Go.Deep.open_slice ht h with ⟨hcs, _⟩ | ⟨b, l, cp, m, n', Dd, Pl, hcs, _⟩
    · exact ⟨none, 0, 0, hcs⟩
    · exact ⟨some b, l, cp, hcs⟩
  obtain ⟨l, rfl, h1, h2, h3, h4⟩ := K.row_of_trod c d good (a := a) (len := len) (cap := cap) (D := x.1) (p := x.2) ht hC h0 hdec ⟨n, h⟩
  exact ⟨a, cap, l, rfl, h1, h2, h3, h4⟩
set_option maxRecDepth 100000 in
theorem decPut {H : Type} {enc : TypeId × Value → H} {w : World} {base : Nat} {spare : Nat → Bool} {held : Bool} (cs : List Value) (n : Nat) (x : DataW H × List MemPlace) (h : DataW.trod enc Tryz.prog w base spare held n 117 cs = some x) :
    ∃ y : PutM, cs = cPut y ∧ ((fun p : PutM => isInt p.at_ ∧ isW p.w)) y := by
  obtain ⟨ys0, m0, _, _, hlen0, hyl0, hf0⟩ := DataW.trod_struct Tryz.underlying117 h
  have hy0 : ys0.length = 2 := hyl0
  obtain ⟨y0, e0, w0⟩ := K.part_int (off := 0) Tryz.underlying3 (by kernel_rfl) (hf0 0 _ rfl) (by omega)
  have f0 := e0
  obtain ⟨y1, e1, w1⟩ := K.part_int (off := 1) Tryz.underlying57 (by kernel_rfl) (hf0 1 _ rfl) (by omega)
  have f1 := e1
  have htot : cs.length = 2 := hlen0.trans (by kernel_rfl)
  match cs, htot with
  | [c0, c1], _ =>
    simp at f0 f1
    subst f0 f1
    exact ⟨⟨y0, y1⟩, rfl, ⟨bounds_i64 w0, bounds_u64 w1⟩⟩
set_option maxRecDepth 100000 in
theorem decCfg {H : Type} {enc : TypeId × Value → H} {w : World} {base : Nat} {spare : Nat → Bool} {held : Bool} (cs : List Value) (n : Nat) (x : DataW H × List MemPlace) (h : DataW.trod enc Tryz.prog w base spare held n 23 cs = some x) :
    ∃ y : Cfg, cs = cCfg y ∧ ((fun c : Cfg => isInt c.th ∧ isInt c.sl ∧ isInt c.lo ∧ isInt c.bu)) y := by
  obtain ⟨ys0, m0, _, _, hlen0, hyl0, hf0⟩ := DataW.trod_struct Tryz.underlying23 h
  have hy0 : ys0.length = 4 := hyl0
  obtain ⟨y0, e0, w0⟩ := K.part_int (off := 0) Tryz.underlying3 (by kernel_rfl) (hf0 0 _ rfl) (by omega)
  have f0 := e0
  obtain ⟨y1, e1, w1⟩ := K.part_int (off := 1) Tryz.underlying3 (by kernel_rfl) (hf0 1 _ rfl) (by omega)
  have f1 := e1
  obtain ⟨y2, e2, w2⟩ := K.part_int (off := 2) Tryz.underlying3 (by kernel_rfl) (hf0 2 _ rfl) (by omega)
  have f2 := e2
  obtain ⟨y3, e3, w3⟩ := K.part_int (off := 3) Tryz.underlying3 (by kernel_rfl) (hf0 3 _ rfl) (by omega)
  have f3 := e3
  have htot : cs.length = 4 := hlen0.trans (by kernel_rfl)
  match cs, htot with
  | [c0, c1, c2, c3], _ =>
    simp at f0 f1 f2 f3
    subst f0 f1 f2 f3
    exact ⟨⟨y0, y1, y2, y3⟩, rfl, ⟨bounds_i64 w0, bounds_i64 w1, bounds_i64 w2, bounds_i64 w3⟩⟩

structure GrA where
  c : Cfg
  a : Option Addr
  cp : Nat
  ps : List PutM
def cGrA (y : GrA) : List Value := [.int .i64 y.c.th, .int .i64 y.c.sl, .int .i64 y.c.lo, .int .i64 y.c.bu, .slice y.a y.ps.length y.cp]
def goodGr (w : World) (y : GrA) : Prop := K.RowE w y.a y.ps.length 2 (fun i => cPut (y.ps.getD i pu0)) ∧ (∀ j, j < y.ps.length → isInt (y.ps.getD j pu0).at_ ∧ isW (y.ps.getD j pu0).w)
set_option maxRecDepth 100000 in
theorem decGr {H : Type} {enc : TypeId × Value → H} {w : World} {base : Nat} {spare : Nat → Bool} {held : Bool} (cs : List Value) (n : Nat) (x : DataW H × List MemPlace) (h : DataW.trod enc Tryz.prog w base spare held n 38 cs = some x) :
    ∃ y : GrA, cs = cGrA y ∧ goodGr w y := by
  obtain ⟨ys, m, _, _, hlen, hyl, hf⟩ := DataW.trod_struct Tryz.underlying38 h
  have hy : ys.length = 2 := hyl
  have q0 : DataW.trod enc Tryz.prog w base spare held m 23 ((cs.drop 0).take (Tryz.prog.cellsOf 23)) = _ := hf 0 _ rfl
  rw [List.getElem?_eq_getElem (by omega), show Tryz.prog.cellsOf 23 = 4 by kernel_rfl] at q0
  have q1 : DataW.trod enc Tryz.prog w base spare held m 36 ((cs.drop 4).take (Tryz.prog.cellsOf 36)) = _ := hf 1 _ rfl
  rw [List.getElem?_eq_getElem (by omega), show Tryz.prog.cellsOf 36 = 1 by kernel_rfl] at q1
  obtain ⟨c, e0, _⟩ := decCfg _ _ _ q0
  obtain ⟨a1, c1, l1, e1, r1, g1, _, _⟩ := part_slice cPut pu0 (fun p : PutM => isInt p.at_ ∧ isW p.w) (size := 2) Tryz.underlying36 (by kernel_rfl) (by decide) decPut q1
  have htot : cs.length = 5 := hlen.trans (by kernel_rfl)
  match cs, htot with
  | [k0, k1, k2, k3, k4], _ =>
    simp [cCfg] at e0 e1
    obtain ⟨rfl, rfl, rfl, rfl⟩ := e0
    subst e1
    exact ⟨⟨c, a1, c1, l1⟩, rfl, r1, g1⟩
set_option maxRecDepth 100000 in
theorem decPoke {H : Type} {enc : TypeId × Value → H} {w : World} {base : Nat} {spare : Nat → Bool} {held : Bool} (cs : List Value) (n : Nat) (x : DataW H × List MemPlace) (h : DataW.trod enc Tryz.prog w base spare held n 61 cs = some x) :
    ∃ y : PokeM, cs = cPoke y ∧ ((fun p : PokeM => p.act.good ∧ isW p.act.w)) y := by
  obtain ⟨ys0, m0, _, _, hlen0, hyl0, hf0⟩ := DataW.trod_struct Tryz.underlying61 h
  have hy0 : ys0.length = 2 := hyl0
  obtain ⟨y0, e0, w0⟩ := K.part_bool (off := 0) Tryz.underlying4 (by kernel_rfl) (hf0 0 _ rfl) (by omega)
  have f0 := e0
  have q0_1 : DataW.trod enc Tryz.prog w base spare held m0 59 ((cs.drop 1).take (Tryz.prog.cellsOf 59)) = ys0[1]? := (hf0 1 _ rfl)
  rw [List.getElem?_eq_getElem (by omega), show Tryz.prog.cellsOf 59 = 5 by kernel_rfl] at q0_1
  obtain ⟨ys1, m1, _, _, hlen1, hyl1, hf1⟩ := DataW.trod_struct Tryz.underlying59 q0_1
  have hy1 : ys1.length = 5 := hyl1
  obtain ⟨y1, e1, w1⟩ := K.part_int (off := 0) Tryz.underlying3 (by kernel_rfl) (hf1 0 _ rfl) (by omega)
  have f1 := K.part_sub (off := 1) (e1)
  obtain ⟨y2, e2, w2⟩ := K.part_int (off := 1) Tryz.underlying3 (by kernel_rfl) (hf1 1 _ rfl) (by omega)
  have f2 := K.part_sub (off := 1) (e2)
  obtain ⟨y3, e3, w3⟩ := K.part_int (off := 2) Tryz.underlying3 (by kernel_rfl) (hf1 2 _ rfl) (by omega)
  have f3 := K.part_sub (off := 1) (e3)
  obtain ⟨y4, e4, w4⟩ := K.part_int (off := 3) Tryz.underlying57 (by kernel_rfl) (hf1 3 _ rfl) (by omega)
  have f4 := K.part_sub (off := 1) (e4)
  obtain ⟨y5, e5, w5⟩ := K.part_int (off := 4) Tryz.underlying57 (by kernel_rfl) (hf1 4 _ rfl) (by omega)
  have f5 := K.part_sub (off := 1) (e5)
  have htot : cs.length = 6 := hlen0.trans (by kernel_rfl)
  match cs, htot with
  | [c0, c1, c2, c3, c4, c5], _ =>
    simp at f0 f1 f2 f3 f4 f5
    subst f0 f1 f2 f3 f4 f5
    exact ⟨⟨y0, ⟨y1, y2, y3, y4, y5⟩⟩, rfl, ⟨⟨bounds_i64 w1, bounds_i64 w2, bounds_i64 w3⟩, bounds_u64 w5⟩⟩

set_option maxRecDepth 100000 in
theorem lifted (os : Os) (started : os.Started) (H : Type) (enc : TypeId × Value → H) :
    ReturnsInHanded {} Tryz.checked os 6 .any (Rows.arenaTakesSpec.pre6 enc Tryz.prog Tryz.f6 Rows.arenaTakesRow.domain false) (Rows.arenaTakesSpec.post enc Tryz.prog Tryz.f6 false true false false) := by
  refine returnsInHanded_of_change (C := Tryz.checked) own started (by kernel_rfl) Tryz.func6
    (ChangeSpec.witness6 (enc := enc) (C := Tryz.checked) false ⟨#[], #[.agg #[.int .i64 0, .int .i64 0, .int .i64 0, .int .i64 0, .slice none 0 0], .int .i64 0, .slice none 0 0], []⟩ 8 (by kernel_rfl) (by kernel_rfl) (by kernel_rfl) (by kernel_rfl)) ?_
  intro W base args ds gs before hval0 hW hcnd _
  have hval : ∀ (j : Nat) t v, Tryz.f6.params[j]? = some t → args[j]? = some v → Value.okWide Tryz.prog W .any base t v := hval0
  have hW' := hW
  obtain ⟨p, q, hA0, hV, rfl, hfz, hnd⟩ := hW
  have hA : DataW.TrodAll enc Tryz.prog W 0 (fun _ => true) true Tryz.f6.params.toList args.toList ds p := hA0
  rw [Tryz.params6] at hA hval
  obtain ⟨v0, vs0, d0, ds0, p0, q0, hargs, rfl, rfl, h0, r0⟩ := trodAll_cons hA
  obtain ⟨v1, vs1, d1, ds1, p1, q1, rfl, rfl, rfl, h1, r1⟩ := trodAll_cons r0
  obtain ⟨v2, vs2, d2, ds2, p2, q2, rfl, rfl, rfl, h2, r2⟩ := trodAll_cons r1
  obtain ⟨rfl, rfl, rfl⟩ := trodAll_nil r2
  obtain rfl : args = #[v0, v1, v2] := by cases args; simp_all
  obtain ⟨rfl, rfl⟩ := trodVars_none hV
  have k0 := h0
  have lt0 : ∀ x ∈ p0, x.block < W.heap.size := by obtain ⟨m, hm⟩ := k0; exact DataW.trod_lt m _ _ _ hm
  obtain ⟨a0, l0, g0⟩ := K.agg_of_trod cGrA (goodGr W) (K.okWide_agg (by kernel_rfl) (hval 0 38 v0 rfl rfl)) decGr h0
  obtain rfl := l0
  obtain ⟨a1, rfl, rfl, rfl, w1⟩ := open_int Tryz.underlying3 (hval 1 3 v1 rfl rfl) h1
  have k2 := h2
  have lt2 : ∀ x ∈ p2, x.block < W.heap.size := by obtain ⟨m, hm⟩ := k2; exact DataW.trod_lt m _ _ _ hm
  obtain ⟨a2, len2, cap2, rfl⟩ := okWide_slice Tryz.underlying54 (hval 2 54 v2 rfl rfl)
  obtain ⟨L2, l2, w2, g2, m2, c2⟩ := K.row_of_trod cPoke pk0 ((fun p : PokeM => p.act.good ∧ isW p.act.w)) (size := 6) Tryz.underlying54 (by kernel_rfl) (by decide) decPoke h2
  obtain rfl := l2
  clear hA0 hval0
  refine (calls_of_kc (K.GC.law (l12takes_ok W a0.c a0.a a0.cp a0.ps g0.2 g0.1 a1 (bounds_i64 w1) a2 cap2 L2 g2 m2 w2))).mono fun e W' ⟨he, bel⟩ => ?_
  subst he
  exact ⟨_, rfl, _, _, _, [], _, [], hW', trodAll_mk1 (shut_bool Tryz.underlying4 _), (trodAll_cons_mk (Below.trod laidOut (by kernel_rfl) (of_decide_eq_true (by kernel_rfl)) k0 bel lt0) (trodAll_cons_mk (shut_int Tryz.underlying3 w1) (trodAll_cons_mk (Below.trod laidOut (by kernel_rfl) (of_decide_eq_true (by kernel_rfl)) k2 bel lt2) trodAll_mk0))), rfl, bel.frame _, fun h => by cases h⟩

theorem over : Rows.arenaTakesRow.holds Tryz.pinned (OpenSpec.ofChange Rows.arenaTakesSpec) :=
  OpenClaim.holds_of_wide 6 Tryz.f6 rfl rfl rfl rfl rfl rfl rfl ⟨rfl, rfl, rfl, rfl, rfl⟩ rfl rfl rfl rfl rfl (by kernel_rfl) Tryz.func6 (by kernel_rfl)
    (of_decide_eq_true (by kernel_rfl)) (by unfold Func.isWrapper; first | (rw [if_pos (by decide +kernel)]; kernel_rfl) | (rw [if_neg (by decide +kernel)]; exact ⟨rfl, rfl⟩))
    (fun os started H enc _ => lifted os started H enc)

theorem proved : Rows.ArenaTakesSaid := over
end Go.Proofs.YtbfafebfkdbglaaGreat.arenaTakes
