import Derived.Test.YtnehocjmgnhhhaaFlist
import Derived.Test.YtnehocjmgnhhhaaKw
import Derived.Test.YtnehocjmgnhhhaaKn
/- slices and cmp over keys and pairs: Compare, BinarySearchFunc, Equal, Clone. -/
namespace Go.Proofs.Ytnehocjmgnhhhaa
open Go.RowKit
set_option linter.unusedVariables false
attribute [local irreducible] K.KW K.RW K.DW K.OW K.QR K.KC
structure PairM where
 key : Int
 val : Int
 deriving DecidableEq
def p0 : PairM := ⟨0, 0⟩
def cPair (p : PairM) : List Value := [.int .u32 p.key, .int .u32 p.val]
abbrev RU32 (w : World) (a : Option Addr) (xs : List Int) : Prop := K.RowE w a xs.length 1 (fun i => cU32 (xs.getD i 0))
abbrev RPr (w : World) (a : Option Addr) (xs : List PairM) : Prop := K.RowE w a xs.length 2 (fun i => cPair (xs.getD i p0))
def cmpI (x y : Int) : Int := if x < y then -1 else if x > y then 1 else 0
theorem cmpI_lt {x y : Int} : cmpI x y < 0 ↔ x < y := by unfold cmpI; split <;> (try split) <;> omega
theorem cmpI_eq {x y : Int} : cmpI x y = 0 ↔ x = y := by unfold cmpI; split <;> (try split) <;> omega
def rising (ks : List Int) : Prop := ∀ i, i + 1 < ks.length → ks.getD i 0 < ks.getD (i + 1) 0
theorem rising_lt {ks : List Int} (h : rising ks) : ∀ {i j : Nat}, i < j → j < ks.length → ks.getD i 0 < ks.getD j 0 := by
 intro i j hij
 induction j with
 | zero => omega
 | succ j ih =>
  intro hj
  by_cases he : i = j
  ·subst he; exact h i hj
  ·exact Int.lt_trans (ih (by omega) (by omega)) (h j hj)
def posT (ks : List Int) (k : Int) : Nat := (ks.takeWhile (fun x => decide (x < k))).length
theorem posT_of {ks : List Int} {k : Int} {i : Nat} (hi : i ≤ ks.length) (h1 : ∀ q, q < i → ks.getD q 0 < k) (h2 : i < ks.length → ¬ ks.getD i 0 < k) : posT ks k = i := by
 unfold posT
 induction ks generalizing i with
 | nil => simp at hi; subst hi; rfl
 | cons x ks ih =>
  cases i with
  | zero =>
   have := h2 (by simp)
   simp at this
   rw [List.takeWhile_cons_of_neg (by simpa using this)]; rfl
  | succ i =>
   have hx := h1 0 (by omega)
   simp at hx
   rw [List.takeWhile_cons_of_pos (by simpa using hx), List.length_cons, ih (i := i) (by simpa using hi) (fun q hq => by have := h1 (q + 1) (by omega); simpa using this) (fun hl => by have := h2 (by simpa using hl); simpa using this)]
def hasT (ks : List Int) (k : Int) : Bool := decide (posT ks k < ks.length ∧ ks.getD (posT ks k) 0 = k)
def keysP (l : List PairM) : List Int := l.map (·.key)
theorem keysP_len (l : List PairM) : (keysP l).length = l.length := by simp [keysP]
theorem keysP_get (l : List PairM) (i : Nat) : (keysP l).getD i 0 = (l.getD i p0).key := by
 unfold keysP
 rw [List.getD_eq_getElem?_getD, List.getD_eq_getElem?_getD, List.getElem?_map]
 cases l[i]? <;> rfl
def insT {α : Type} (xs : List α) (i : Nat) (x : α) : List α := xs.take i ++ x :: xs.drop i
def delT {α : Type} (xs : List α) (i : Nat) : List α := xs.take i ++ xs.drop (i + 1)
theorem insT_len {α : Type} {xs : List α} {i : Nat} {x : α} (h : i ≤ xs.length) : (insT xs i x).length = xs.length + 1 := by unfold insT; simp; omega
theorem delT_len {α : Type} {xs : List α} {i : Nat} (h : i < xs.length) : (delT xs i).length = xs.length - 1 := by unfold delT; simp; omega
set_option maxHeartbeats 1000000 in
set_option maxRecDepth 100000 in
theorem nan32_ok (x : Int) (w0 : World) :
  K.KC Try.prog 94 #[.int .u32 x] w0 (fun v w' => v = .bool false ∧ K.Chg K.No w0 w') := by
 refine K.KC.mk (n := 6) Try.func94 rfl rfl [.int .u32 x] rfl rfl ?_
 refine K.s ?_
 refine K.g (K.q [.bool false] (K.z (K.t (K.s ?_))))
 refine K.g (K.q [.int .u32 x, .int .u32 x] ?_)
 refine K.xn (x : Int) (x : Int) (rfl) ?_
 refine K.q [.bool false] (K.z (K.t (K.r ?_)))
 refine ⟨.inr rfl, rfl, (.bool false), K.res1 rfl rfl, ?_⟩
 exact ⟨rfl, (K.Chg.refl _)⟩
set_option maxHeartbeats 1000000 in
set_option maxRecDepth 100000 in
theorem cmp32_ok (x y : Int) (w0 : World) :
  K.KC Try.prog 86 #[.int .u32 x, .int .u32 y] w0 (fun v w' => v = K.iv (cmpI x y) ∧ K.Chg K.No w0 w') := by
 refine K.KC.mk (n := 20) Try.func86 rfl rfl [.int .u32 x, .int .u32 y] rfl rfl ?_
 refine K.s ?_
 refine K.g (K.q [K.iv 0] (K.z (K.t (K.s ?_))))
 refine K.g (K.q [.int .u32 x] ?_)
 refine K.l (K.OW.call rfl [.int .u32 x] rfl rfl (by kernel_rfl) (nan32_ok x _) ?_)
 rintro _ w_2 ⟨rfl, c_1⟩
 have c_3 := c_1
 have z_4 := c_3.size
 have zz_5 := c_1.size
 refine K.q [.bool false] (K.z (K.t (K.s ?_)))
 refine K.g (K.q [.int .u32 y] ?_)
 refine K.l (K.OW.call rfl [.int .u32 y] rfl rfl (by kernel_rfl) (nan32_ok y _) ?_)
 rintro _ w_7 ⟨rfl, c_6⟩
 have c_8 := c_3.no c_6
 have z_9 := c_8.size
 have zz_10 := c_6.size
 refine K.q [.bool false] (K.z (K.t (K.s (K.s ?_))))
 refine K.g (K.q [.bool false] (K.z (K.t (K.f (K.k (K.t (K.s (K.s ?_))))))))
 refine K.g (K.q [.bool false] (K.z (K.t (K.f (K.k (K.t (K.s (K.s ?_))))))))
 refine K.g (K.q [.int .u32 x, .int .u32 y] ?_)
 by_cases h_11 : (x : Int) < (y : Int)
 ·
  refine K.y ((x : Int) < (y : Int)) h_11 ?_
  refine K.z (K.t (K.h (K.s ?_)))
  refine K.g (K.q [K.iv (-1)] (K.z (K.t (K.r (K.u ?_)))))
  refine ⟨.inr rfl, rfl, (K.iv (-1)), K.res1 rfl rfl, ?_⟩
  exact ⟨congrArg (Value.int .i64) (by unfold cmpI; split <;> (try split) <;> omega), c_8⟩
 ·
  refine K.x ((x : Int) < (y : Int)) h_11 ?_
  refine K.z (K.t (K.f (K.k (K.t (K.s (K.s ?_))))))
  refine K.g (K.q [.int .u32 x, .int .u32 y] ?_)
  by_cases h_12 : (x : Int) > (y : Int)
  ·
   refine K.y ((x : Int) > (y : Int)) h_12 ?_
   refine K.z (K.t (K.h (K.s ?_)))
   refine K.g (K.q [K.iv 1] (K.z (K.t (K.r (K.u ?_)))))
   refine ⟨.inr rfl, rfl, (K.iv 1), K.res1 rfl rfl, ?_⟩
   exact ⟨congrArg (Value.int .i64) (by unfold cmpI; split <;> (try split) <;> omega), c_8⟩
  ·
   refine K.x ((x : Int) > (y : Int)) h_12 ?_
   refine K.z (K.t (K.f (K.k (K.t (K.s ?_)))))
   refine K.g (K.q [K.iv 0] (K.z (K.t (K.r ?_))))
   refine ⟨.inr rfl, rfl, (K.iv 0), K.res1 rfl rfl, ?_⟩
   exact ⟨congrArg (Value.int .i64) (by unfold cmpI; split <;> (try split) <;> omega), c_8⟩
set_option maxHeartbeats 1000000 in
set_option maxRecDepth 100000 in
theorem own_ok (x : Int) (w0 : World) :
  K.KC Try.prog 55 #[.int .u32 x] w0 (fun v w' => v = .int .u32 x ∧ K.Chg K.No w0 w') := by
 refine K.KC.mk (n := 4) Try.func55 rfl rfl [.int .u32 x] rfl rfl ?_
 refine K.s ?_
 refine K.g (K.q [.int .u32 0] (K.z (K.t (K.s ?_))))
 refine K.g (K.q [.int .u32 x, .int .u32 x] (K.z (K.t (K.r ?_))))
 refine ⟨.inr rfl, rfl, (.int .u32 x), K.res1 rfl rfl, ?_⟩
 exact ⟨rfl, (K.Chg.refl _)⟩
set_option maxHeartbeats 1000000 in
set_option maxRecDepth 100000 in
theorem first_ok (x y : Int) (w0 : World) :
  K.KC Try.prog 57 #[.agg #[.int .u32 x, .int .u32 y]] w0 (fun v w' => v = .int .u32 x ∧ K.Chg K.No w0 w') := by
 refine K.KC.mk (n := 5) Try.func57 rfl rfl [.agg #[.int .u32 x, .int .u32 y]] rfl rfl ?_
 refine K.s ?_
 refine K.g ?_
 refine K.l (K.OW.new (t := 59) rfl (fun r => K.pa r) [.int .u32 x, .int .u32 y] (by kernel_rfl) ?_)
 intro w_1 r_2 hr_3 e_4 hs_5 b_6
 have c_7 := e_4
 have z_8 := c_7.size
 have zz_9 := e_4.size
 refine K.q [.int .u32 0] (K.z (K.t (K.s ?_)))
 refine K.g (K.q [K.pa r_2] ?_)
 refine K.d (.int .u32 x) (b_6.cell rfl) ?_
 refine K.q [.int .u32 x] (K.z (K.t (K.r ?_)))
 refine ⟨.inr rfl, rfl, (.int .u32 x), K.res1 rfl rfl, ?_⟩
 exact ⟨rfl, c_7⟩
theorem bs_loU {ks : List Int} {k : Int} {h : Nat} (hr : rising ks) (hl : h < ks.length) (hc : cmpI (ks.getD h 0) k < 0) : ∀ q, q < h + 1 → ks.getD q 0 < k := by
 intro q hq
 have h1 := cmpI_lt.1 hc
 rcases Nat.lt_or_ge q h with h2 | h2
 ·exact Int.lt_trans (rising_lt hr h2 hl) h1
 ·rw [show q = h by omega]; exact h1
theorem bs_hiU {ks : List Int} {k : Int} {h : Nat} (hr : rising ks) (hl : h < ks.length) (hc : ¬ cmpI (ks.getD h 0) k < 0) : ∀ q, h ≤ q → q < ks.length → ¬ ks.getD q 0 < k := by
 intro q hq hq2
 have h1 : ¬ ks.getD h 0 < k := fun h => hc (cmpI_lt.2 h)
 rcases Nat.lt_or_ge h q with h2 | h2
 ·have := rising_lt hr h2 hq2; omega
 ·rw [show q = h by omega]; exact h1
theorem bs_loP {xs : List PairM} {k : Int} {h : Nat} (hr : rising (keysP xs)) (hl : h < xs.length) (hc : cmpI (xs.getD h p0).key k < 0) : ∀ q, q < h + 1 → (keysP xs).getD q 0 < k :=
 bs_loU hr (by rw [keysP_len]; exact hl) (by rw [keysP_get]; exact hc)
theorem bs_hiP {xs : List PairM} {k : Int} {h : Nat} (hr : rising (keysP xs)) (hl : h < xs.length) (hc : ¬ cmpI (xs.getD h p0).key k < 0) : ∀ q, h ≤ q → q < xs.length → ¬ (keysP xs).getD q 0 < k := fun q h1 h2 =>
 bs_hiU hr (by rw [keysP_len]; exact hl) (by rw [keysP_get]; exact hc) q h1 (by rw [keysP_len]; exact h2)
theorem bs_endU {xs : List Int} {k : Int} {i j : Nat} (hj : j ≤ i) (hi : i ≤ xs.length) (h1 : ∀ q, q < i → xs.getD q 0 < k) (h2 : ∀ q, j ≤ q → q < xs.length → ¬ xs.getD q 0 < k) : posT xs k = i := posT_of hi h1 fun h => h2 i hj h
theorem bs_endP {xs : List PairM} {k : Int} {i j : Nat} (hj : j ≤ i) (hi : i ≤ xs.length) (h1 : ∀ q, q < i → (keysP xs).getD q 0 < k) (h2 : ∀ q, j ≤ q → q < xs.length → ¬ (keysP xs).getD q 0 < k) : posT (keysP xs) k = i := posT_of (by rw [keysP_len]; exact hi) h1 fun h => h2 i hj (by rw [keysP_len] at h; exact h)
theorem hasU_t {xs : List Int} {k : Int} {i : Nat} (hp : posT xs k = i) (hi : i < xs.length) (hc : cmpI (xs.getD i 0) k = 0) : true = hasT xs k := by unfold hasT; rw [hp]; exact (decide_eq_true ⟨hi, cmpI_eq.1 hc⟩).symm
theorem hasU_f {xs : List Int} {k : Int} {i : Nat} (hp : posT xs k = i) (hc : ¬ cmpI (xs.getD i 0) k = 0) : false = hasT xs k := by unfold hasT; rw [hp]; exact (decide_eq_false fun h => hc (cmpI_eq.2 h.2)).symm
theorem hasU_n {xs : List Int} {k : Int} {i : Nat} (hp : posT xs k = i) (hi : ¬ i < xs.length) : false = hasT xs k := by unfold hasT; rw [hp]; exact (decide_eq_false fun h => hi h.1).symm
theorem hasP_t {xs : List PairM} {k : Int} {i : Nat} (hp : posT (keysP xs) k = i) (hi : i < xs.length) (hc : cmpI (xs.getD i p0).key k = 0) : true = hasT (keysP xs) k := hasU_t hp (by rw [keysP_len]; exact hi) (by rw [keysP_get]; exact hc)
theorem hasP_f {xs : List PairM} {k : Int} {i : Nat} (hp : posT (keysP xs) k = i) (hc : ¬ cmpI (xs.getD i p0).key k = 0) : false = hasT (keysP xs) k := hasU_f hp (by rw [keysP_get]; exact hc)
theorem hasP_n {xs : List PairM} {k : Int} {i : Nat} (hp : posT (keysP xs) k = i) (hi : ¬ i < xs.length) : false = hasT (keysP xs) k := hasU_n hp (by rw [keysP_len]; exact hi)
set_option maxHeartbeats 1000000 in
set_option maxRecDepth 100000 in
theorem byU_ok (x : Int) (k : Int) (b : Nat) (w0 : World) (hb : K.Blk w0 b 91 [.func (.func 55) #[] #[]]) :
  K.KC Try.prog 85 #[.int .u32 x, .int .u32 k, K.pa b] w0 (fun v w' => v = K.iv (cmpI x k) ∧ K.Chg K.No w0 w') := by
 refine K.KC.mk (n := 11) Try.func85 rfl rfl [.int .u32 x, .int .u32 k, K.pa b] rfl rfl ?_
 refine K.s ?_
 refine K.g (K.q [K.iv 0] (K.z (K.t (K.s ?_))))
 refine K.g ?_
 refine K.d (.func (.func 55) [].toArray [].toArray) (hb.cell rfl) ?_
 refine K.q [.int .u32 x] ?_
 refine K.l (K.OW.callv rfl [.int .u32 x] rfl rfl rfl (by kernel_rfl) (own_ok x _) ?_)
 rintro _ w_2 ⟨rfl, c_1⟩
 have c_3 := c_1
 have z_4 := c_3.size
 have zz_5 := c_1.size
 refine K.q [.int .u32 k] ?_
 refine K.l (K.OW.call rfl [.int .u32 x, .int .u32 k] rfl rfl (by kernel_rfl) (cmp32_ok x k _) ?_)
 rintro _ w_7 ⟨rfl, c_6⟩
 have c_8 := c_3.no c_6
 have z_9 := c_8.size
 have zz_10 := c_6.size
 refine K.q [K.iv (cmpI x k)] (K.z (K.t (K.r ?_)))
 refine ⟨.inr rfl, rfl, (K.iv (cmpI x k)), K.res1 rfl rfl, ?_⟩
 exact ⟨rfl, c_8⟩
set_option maxHeartbeats 1000000 in
set_option maxRecDepth 100000 in
theorem bsU_ok (a : Option Addr) (cap : Nat) (xs : List Int) (k : Int) (b : Nat) (w0 : World) (hm : xs.length ≤ 1000000000) (hr : rising xs) (hx : RU32 w0 a xs) (hb : K.Blk w0 b 91 [.func (.func 55) #[] #[]]) :
  K.KC Try.prog 84 #[.slice a xs.length cap, .int .u32 k, .func (.func 85) [].toArray [K.pa b].toArray] w0 (fun v w' => v = .tuple #[K.iv (posT xs k), .bool (hasT xs k)] ∧ K.Chg K.No w0 w') := by
 refine K.KC.mk (n := 49) Try.func84 rfl rfl [.slice a xs.length cap, .int .u32 k, .func (.func 85) [].toArray [K.pa b].toArray] rfl rfl ?_
 refine K.s ?_
 refine K.g (K.q [K.iv 0, .bool false] (K.z (K.t (K.s ?_))))
 refine K.g (K.q [.slice a xs.length cap] ?_)
 refine K.a (K.QR.len (P := Try.prog) rfl rfl Try.underlying27) ?_
 refine K.q [K.iv ((xs.length : Nat) : Int)] (K.z (K.t (K.s ?_)))
 refine K.g (K.q [K.iv ((xs.length : Nat) : Int), K.iv 0, K.iv ((xs.length : Nat) : Int)] (K.z (K.t (K.s ?_))))
 refine K.KW.block ?_
 refine K.KW.loop (fun m_ F_ w_1 => ∃ (i : Nat) (j : Nat), m_ = j - i ∧ K.Sl F_ [(0, .slice a xs.length cap), (1, .int .u32 k), (2, .func (.func 85) [].toArray [K.pa b].toArray), (6, K.iv 0), (7, .bool false), (8, K.iv ((xs.length : Nat) : Int)), (9, K.iv ((i : Nat) : Int)), (10, K.iv ((j : Nat) : Int)), (49, undef)] ∧ i ≤ j ∧ j ≤ xs.length ∧ ((∀ q, q < i → xs.getD q 0 < k)) ∧ ((∀ q, j ≤ q → q < xs.length → ¬ xs.getD q 0 < k)) ∧ K.Chg K.No w0 w_1) ((fun (i : Nat) (j : Nat) => j - i) 0 xs.length) ?_ ?_
 ·
  exact ⟨0, xs.length, rfl, ⟨by rfl, by rfl, by rfl, by rfl, by rfl, by rfl, by rfl, by rfl, by rfl, trivial⟩, (by omega), (by omega), (fun q h => by omega), (fun q h1 h2 => by omega), (K.Chg.refl _)⟩
 ·
  intro m_2 F_3 w_1 hI
  obtain ⟨i, j, rfl, sl_4, p_6, p_7, p_8, p_9, c_5⟩ := hI
  rw [← K.Sl.puts sl_4]; clear sl_4
  have z_10 := c_5.size
  refine K.s (K.s ?_)
  refine K.g (K.q [K.iv ((i : Nat) : Int), K.iv ((j : Nat) : Int)] ?_)
  by_cases h_11 : (((i : Nat) : Int) : Int) < (((j : Nat) : Int) : Int)
  ·
   refine K.y ((((i : Nat) : Int) : Int) < (((j : Nat) : Int) : Int)) h_11 ?_
   refine K.z (K.t (K.h (K.k (K.t ?_))))
   refine K.KW.block ?_
   refine K.s ?_
   refine K.g (K.q [K.iv ((i : Nat) : Int), K.iv ((j : Nat) : Int)] ?_)
   refine K.a (K.QR.n64 ((((i : Nat) : Int) : Int) + (((j : Nat) : Int) : Int)) ((i + j : Nat) : Int) (by kernel_rfl) (by omega)) ?_
   refine K.a (K.QR.nice (v := .int .u64 (IntKind.u64.wrap ((i + j : Nat) : Int))) (by kernel_rfl) (congrArg (Value.int .u64) (IntWalk.u64_in _ (by omega)))) ?_
   refine K.a (K.QR.turn (v := .int .u64 ((((i + j : Nat) : Int) : Int) / 2 ^ (1))) (K.QR.shr (m := 1) rfl rfl rfl (by show _ ≤ 64; omega) (by omega)) (congrArg (Value.int .u64) (show ((((i + j : Nat) : Int) : Int) / 2 ^ (1) : Int) = ((((i + j) / 2 : Nat) : Int) : Int) from by omega))) ?_
   refine K.a (K.QR.nice (v := K.iv (IntKind.i64.wrap (((i + j) / 2 : Nat) : Int))) (by kernel_rfl) (congrArg (Value.int .i64) (IntWalk.i64_in _ (by omega)))) ?_
   refine K.q [K.iv (((i + j) / 2 : Nat) : Int)] (K.z (K.t (K.s ?_)))
   obtain ⟨b_12, of_13, rfl, _⟩ := hx.at_ (by omega)
   refine K.g (K.q [.func (.func 85) [].toArray [K.pa b].toArray, .slice (some ⟨b_12, of_13, none⟩) xs.length cap, K.iv (((i + j) / 2 : Nat) : Int)] ?_)
   refine K.a (K.QR.ix (of_13 + ((i + j) / 2) * 1) 1 rfl rfl rfl Try.underlying27 (by kernel_rfl) (by omega) (by first | (simp; done) | omega | (simp; omega))) ?_
   refine K.d (.int .u32 (xs.getD ((i + j) / 2) 0)) (c_5.cell (hx.ld ((i + j) / 2) (by omega) 0 _ rfl) id) ?_
   refine K.q [.int .u32 k] ?_
   refine K.l (K.OW.callv rfl [.int .u32 (xs.getD ((i + j) / 2) 0), .int .u32 k, K.pa b] rfl rfl rfl (by kernel_rfl) (byU_ok (xs.getD ((i + j) / 2) 0) k _ _ (hb.no c_5)) ?_)
   rintro _ w_15 ⟨rfl, c_14⟩
   have c_16 := c_5.no c_14
   have z_17 := c_16.size
   have zz_18 := c_14.size
   by_cases h_19 : ((cmpI (xs.getD ((i + j) / 2) 0) k) : Int) < (0 : Int)
   ·
    refine K.y (((cmpI (xs.getD ((i + j) / 2) 0) k) : Int) < (0 : Int)) h_19 ?_
    refine K.z (K.t (K.h ?_))
    refine K.g (K.q [K.iv (((i + j) / 2 : Nat) : Int)] ?_)
    refine K.a (K.QR.n64 (((((i + j) / 2 : Nat) : Int) : Int) + (1 : Int)) (((i + j) / 2 + 1 : Nat) : Int) (by kernel_rfl) (by omega)) ?_
    refine K.q [K.iv (((i + j) / 2 + 1 : Nat) : Int)] (K.z ?_)
    refine K.blk_normal ?_
    refine K.t ?_
    refine ⟨_, ?_, (i + j) / 2 + 1, j, rfl, ⟨by rfl, by rfl, by rfl, by rfl, by rfl, by rfl, by rfl, by rfl, by rfl, trivial⟩, (by omega), (by omega), (by exact bs_loU hr (by omega) (by assumption)), (by assumption), c_16⟩
    omega
   ·
    refine K.x (((cmpI (xs.getD ((i + j) / 2) 0) k) : Int) < (0 : Int)) h_19 ?_
    refine K.z (K.t (K.f ?_))
    refine K.g (K.q [K.iv (((i + j) / 2 : Nat) : Int), K.iv (((i + j) / 2 : Nat) : Int)] (K.z ?_))
    refine K.blk_normal ?_
    refine K.t ?_
    refine ⟨_, ?_, i, (i + j) / 2, rfl, ⟨by rfl, by rfl, by rfl, by rfl, by rfl, by rfl, by rfl, by rfl, by rfl, trivial⟩, (by omega), (by omega), (by assumption), (by exact bs_hiU hr (by omega) (by assumption)), c_16⟩
    omega
  ·
   refine K.x ((((i : Nat) : Int) : Int) < (((j : Nat) : Int) : Int)) h_11 ?_
   refine K.z (K.t (K.f ?_))
   refine K.KW.exit ?_
   refine K.thn_exit ?_
   refine K.thn_exit ?_
   refine K.blk_hit ?_
   refine K.t (K.s ?_)
   by_cases h_20 : (((i : Nat) : Int) : Int) < (((xs.length : Nat) : Int) : Int)
   ·
    obtain ⟨b_21, of_22, rfl, _⟩ := hx.at_ (by omega)
    refine K.g (K.q [K.iv ((i : Nat) : Int), K.iv ((i : Nat) : Int), K.iv ((xs.length : Nat) : Int)] ?_)
    refine K.y ((((i : Nat) : Int) : Int) < (((xs.length : Nat) : Int) : Int)) h_20 ?_
    refine K.q [.bool true, .func (.func 85) [].toArray [K.pa b].toArray, .slice (some ⟨b_21, of_22, none⟩) xs.length cap, K.iv ((i : Nat) : Int)] ?_
    refine K.a (K.QR.ix (of_22 + i * 1) 1 rfl rfl rfl Try.underlying27 (by kernel_rfl) (by omega) (by first | (simp; done) | omega | (simp; omega))) ?_
    refine K.d (.int .u32 (xs.getD i 0)) (c_5.cell (hx.ld i (by omega) 0 _ rfl) id) ?_
    refine K.q [.int .u32 k] ?_
    refine K.l (K.OW.callv rfl [.int .u32 (xs.getD i 0), .int .u32 k, K.pa b] rfl rfl rfl (by kernel_rfl) (byU_ok (xs.getD i 0) k _ _ (hb.no c_5)) ?_)
    rintro _ w_24 ⟨rfl, c_23⟩
    have c_25 := c_5.no c_23
    have z_26 := c_25.size
    have zz_27 := c_23.size
    by_cases h_28 : ((cmpI (xs.getD i 0) k) : Int) = (0 : Int)
    ·
     refine K.ye ((cmpI (xs.getD i 0) k) : Int) (0 : Int) h_28 ?_
     refine K.q [.bool true, K.iv ((i : Nat) : Int), .bool true] (K.z (K.t (K.r ?_)))
     refine ⟨.inr rfl, rfl, (.tuple #[K.iv ((i : Nat) : Int), .bool true]), K.res2 rfl rfl rfl, ?_⟩
     have hp := bs_endU (xs := xs) (k := k) (i := i) (j := j) (by omega) (by omega) (by assumption) (by assumption)
     rw [hp]
     exact ⟨by first | rw [← hasU_t hp (by omega) (by assumption)] | rw [← hasU_f hp (by assumption)] | rw [← hasU_n hp (by omega)], c_25⟩
    ·
     refine K.xe ((cmpI (xs.getD i 0) k) : Int) (0 : Int) h_28 ?_
     refine K.q [.bool false, K.iv ((i : Nat) : Int), .bool false] (K.z (K.t (K.r ?_)))
     refine ⟨.inr rfl, rfl, (.tuple #[K.iv ((i : Nat) : Int), .bool false]), K.res2 rfl rfl rfl, ?_⟩
     have hp := bs_endU (xs := xs) (k := k) (i := i) (j := j) (by omega) (by omega) (by assumption) (by assumption)
     rw [hp]
     exact ⟨by first | rw [← hasU_t hp (by omega) (by assumption)] | rw [← hasU_f hp (by assumption)] | rw [← hasU_n hp (by omega)], c_25⟩
   ·
    refine K.g (K.q [K.iv ((i : Nat) : Int), K.iv ((i : Nat) : Int), K.iv ((xs.length : Nat) : Int)] ?_)
    refine K.x ((((i : Nat) : Int) : Int) < (((xs.length : Nat) : Int) : Int)) h_20 ?_
    refine K.q [.bool false] (K.n_ (K.n_ (K.n_ (K.n_ (K.n_ (K.n_ (K.n_ (K.n_ (K.q [.bool false, K.iv ((i : Nat) : Int), .bool false] (K.z (K.t (K.r ?_))))))))))))
    refine ⟨.inr rfl, rfl, (.tuple #[K.iv ((i : Nat) : Int), .bool false]), K.res2 rfl rfl rfl, ?_⟩
    have hp := bs_endU (xs := xs) (k := k) (i := i) (j := j) (by omega) (by omega) (by assumption) (by assumption)
    rw [hp]
    exact ⟨by first | rw [← hasU_t hp (by omega) (by assumption)] | rw [← hasU_f hp (by assumption)] | rw [← hasU_n hp (by omega)], c_5⟩
set_option maxHeartbeats 1000000 in
set_option maxRecDepth 100000 in
theorem byP_ok (x y : Int) (k : Int) (b : Nat) (w0 : World) (hb : K.Blk w0 b 93 [.func (.func 57) #[] #[]]) :
  K.KC Try.prog 88 #[.agg #[.int .u32 x, .int .u32 y], .int .u32 k, K.pa b] w0 (fun v w' => v = K.iv (cmpI x k) ∧ K.Chg K.No w0 w') := by
 refine K.KC.mk (n := 11) Try.func88 rfl rfl [.agg #[.int .u32 x, .int .u32 y], .int .u32 k, K.pa b] rfl rfl ?_
 refine K.s ?_
 refine K.g ?_
 refine K.l (K.OW.new (t := 59) rfl (fun r => K.pa r) [.int .u32 x, .int .u32 y] (by kernel_rfl) ?_)
 intro w_1 r_2 hr_3 e_4 hs_5 b_6
 have c_7 := e_4
 have z_8 := c_7.size
 have zz_9 := e_4.size
 refine K.q [K.iv 0] (K.z (K.t (K.s ?_)))
 refine K.g ?_
 refine K.d (.func (.func 57) [].toArray [].toArray) (c_7.cell (hb.cell rfl) id) ?_
 refine K.a (K.QR.ldN [.int .u32 x, .int .u32 y] rfl rfl (by kernel_rfl) (by kernel_rfl) (K.cells (K.cl (b_6.cell rfl) (K.cl (b_6.cell rfl) K.cl0)))) ?_
 refine K.l (K.OW.callv rfl [.agg #[.int .u32 x, .int .u32 y]] rfl rfl rfl (by kernel_rfl) (first_ok x y _) ?_)
 rintro _ w_11 ⟨rfl, c_10⟩
 have c_12 := c_7.no c_10
 have z_13 := c_12.size
 have zz_14 := c_10.size
 have f_15 := b_6.no c_10
 refine K.q [.int .u32 k] ?_
 refine K.l (K.OW.call rfl [.int .u32 x, .int .u32 k] rfl rfl (by kernel_rfl) (cmp32_ok x k _) ?_)
 rintro _ w_17 ⟨rfl, c_16⟩
 have c_18 := c_12.no c_16
 have z_19 := c_18.size
 have zz_20 := c_16.size
 have f_21 := f_15.no c_16
 refine K.q [K.iv (cmpI x k)] (K.z (K.t (K.r ?_)))
 refine ⟨.inr rfl, rfl, (K.iv (cmpI x k)), K.res1 rfl rfl, ?_⟩
 exact ⟨rfl, c_18⟩
set_option maxHeartbeats 1000000 in
set_option maxRecDepth 100000 in
theorem bsP_ok (a : Option Addr) (cap : Nat) (xs : List PairM) (k : Int) (b : Nat) (w0 : World) (hm : xs.length ≤ 1000000000) (hr : rising (keysP xs)) (hx : RPr w0 a xs) (hb : K.Blk w0 b 93 [.func (.func 57) #[] #[]]) :
  K.KC Try.prog 87 #[.slice a xs.length cap, .int .u32 k, .func (.func 88) [].toArray [K.pa b].toArray] w0 (fun v w' => v = .tuple #[K.iv (posT (keysP xs) k), .bool (hasT (keysP xs) k)] ∧ K.Chg K.No w0 w') := by
 have hkl := keysP_len xs
 have hkg := keysP_get xs
 refine K.KC.mk (n := 49) Try.func87 rfl rfl [.slice a xs.length cap, .int .u32 k, .func (.func 88) [].toArray [K.pa b].toArray] rfl rfl ?_
 refine K.s ?_
 refine K.g (K.q [K.iv 0, .bool false] (K.z (K.t (K.s ?_))))
 refine K.g (K.q [.slice a xs.length cap] ?_)
 refine K.a (K.QR.len (P := Try.prog) rfl rfl Try.underlying28) ?_
 refine K.q [K.iv ((xs.length : Nat) : Int)] (K.z (K.t (K.s ?_)))
 refine K.g (K.q [K.iv ((xs.length : Nat) : Int), K.iv 0, K.iv ((xs.length : Nat) : Int)] (K.z (K.t (K.s ?_))))
 refine K.KW.block ?_
 refine K.KW.loop (fun m_ F_ w_1 => ∃ (i : Nat) (j : Nat), m_ = j - i ∧ K.Sl F_ [(0, .slice a xs.length cap), (1, .int .u32 k), (2, .func (.func 88) [].toArray [K.pa b].toArray), (6, K.iv 0), (7, .bool false), (8, K.iv ((xs.length : Nat) : Int)), (9, K.iv ((i : Nat) : Int)), (10, K.iv ((j : Nat) : Int)), (49, undef)] ∧ i ≤ j ∧ j ≤ xs.length ∧ ((∀ q, q < i → (keysP xs).getD q 0 < k)) ∧ ((∀ q, j ≤ q → q < xs.length → ¬ (keysP xs).getD q 0 < k)) ∧ K.Chg K.No w0 w_1) ((fun (i : Nat) (j : Nat) => j - i) 0 xs.length) ?_ ?_
 ·
  exact ⟨0, xs.length, rfl, ⟨by rfl, by rfl, by rfl, by rfl, by rfl, by rfl, by rfl, by rfl, by rfl, trivial⟩, (by omega), (by omega), (fun q h => by omega), (fun q h1 h2 => by omega), (K.Chg.refl _)⟩
 ·
  intro m_2 F_3 w_1 hI
  obtain ⟨i, j, rfl, sl_4, p_6, p_7, p_8, p_9, c_5⟩ := hI
  rw [← K.Sl.puts sl_4]; clear sl_4
  have z_10 := c_5.size
  refine K.s (K.s ?_)
  refine K.g (K.q [K.iv ((i : Nat) : Int), K.iv ((j : Nat) : Int)] ?_)
  by_cases h_11 : (((i : Nat) : Int) : Int) < (((j : Nat) : Int) : Int)
  ·
   refine K.y ((((i : Nat) : Int) : Int) < (((j : Nat) : Int) : Int)) h_11 ?_
   refine K.z (K.t (K.h (K.k (K.t ?_))))
   refine K.KW.block ?_
   refine K.s ?_
   refine K.g (K.q [K.iv ((i : Nat) : Int), K.iv ((j : Nat) : Int)] ?_)
   refine K.a (K.QR.n64 ((((i : Nat) : Int) : Int) + (((j : Nat) : Int) : Int)) ((i + j : Nat) : Int) (by kernel_rfl) (by omega)) ?_
   refine K.a (K.QR.nice (v := .int .u64 (IntKind.u64.wrap ((i + j : Nat) : Int))) (by kernel_rfl) (congrArg (Value.int .u64) (IntWalk.u64_in _ (by omega)))) ?_
   refine K.a (K.QR.turn (v := .int .u64 ((((i + j : Nat) : Int) : Int) / 2 ^ (1))) (K.QR.shr (m := 1) rfl rfl rfl (by show _ ≤ 64; omega) (by omega)) (congrArg (Value.int .u64) (show ((((i + j : Nat) : Int) : Int) / 2 ^ (1) : Int) = ((((i + j) / 2 : Nat) : Int) : Int) from by omega))) ?_
   refine K.a (K.QR.nice (v := K.iv (IntKind.i64.wrap (((i + j) / 2 : Nat) : Int))) (by kernel_rfl) (congrArg (Value.int .i64) (IntWalk.i64_in _ (by omega)))) ?_
   refine K.q [K.iv (((i + j) / 2 : Nat) : Int)] (K.z (K.t (K.s ?_)))
   obtain ⟨b_12, of_13, rfl, _⟩ := hx.at_ (by omega)
   refine K.g (K.q [.func (.func 88) [].toArray [K.pa b].toArray, .slice (some ⟨b_12, of_13, none⟩) xs.length cap, K.iv (((i + j) / 2 : Nat) : Int)] ?_)
   refine K.a (K.QR.ix (of_13 + ((i + j) / 2) * 2) 2 rfl rfl rfl Try.underlying28 (by kernel_rfl) (by omega) (by first | (simp; done) | omega | (simp; omega))) ?_
   refine K.a (K.QR.ldN [.int .u32 ((xs.getD ((i + j) / 2) p0).key), .int .u32 ((xs.getD ((i + j) / 2) p0).val)] rfl rfl (by kernel_rfl) (by kernel_rfl) (K.cells (K.cl (c_5.cell (hx.ld ((i + j) / 2) (by omega) 0 _ rfl) id) (K.cl (c_5.cell (hx.ld ((i + j) / 2) (by omega) 1 _ rfl) id) K.cl0)))) ?_
   refine K.q [.int .u32 k] ?_
   refine K.l (K.OW.callv rfl [.agg #[.int .u32 ((xs.getD ((i + j) / 2) p0).key), .int .u32 ((xs.getD ((i + j) / 2) p0).val)], .int .u32 k, K.pa b] rfl rfl rfl (by kernel_rfl) (byP_ok ((xs.getD ((i + j) / 2) p0).key) ((xs.getD ((i + j) / 2) p0).val) k _ _ (hb.no c_5)) ?_)
   rintro _ w_15 ⟨rfl, c_14⟩
   have c_16 := c_5.no c_14
   have z_17 := c_16.size
   have zz_18 := c_14.size
   by_cases h_19 : ((cmpI ((xs.getD ((i + j) / 2) p0).key) k) : Int) < (0 : Int)
   ·
    refine K.y (((cmpI ((xs.getD ((i + j) / 2) p0).key) k) : Int) < (0 : Int)) h_19 ?_
    refine K.z (K.t (K.h ?_))
    refine K.g (K.q [K.iv (((i + j) / 2 : Nat) : Int)] ?_)
    refine K.a (K.QR.n64 (((((i + j) / 2 : Nat) : Int) : Int) + (1 : Int)) (((i + j) / 2 + 1 : Nat) : Int) (by kernel_rfl) (by omega)) ?_
    refine K.q [K.iv (((i + j) / 2 + 1 : Nat) : Int)] (K.z ?_)
    refine K.blk_normal ?_
    refine K.t ?_
    refine ⟨_, ?_, (i + j) / 2 + 1, j, rfl, ⟨by rfl, by rfl, by rfl, by rfl, by rfl, by rfl, by rfl, by rfl, by rfl, trivial⟩, (by omega), (by omega), (by exact bs_loP hr (by omega) (by assumption)), (by assumption), c_16⟩
    omega
   ·
    refine K.x (((cmpI ((xs.getD ((i + j) / 2) p0).key) k) : Int) < (0 : Int)) h_19 ?_
    refine K.z (K.t (K.f ?_))
    refine K.g (K.q [K.iv (((i + j) / 2 : Nat) : Int), K.iv (((i + j) / 2 : Nat) : Int)] (K.z ?_))
    refine K.blk_normal ?_
    refine K.t ?_
    refine ⟨_, ?_, i, (i + j) / 2, rfl, ⟨by rfl, by rfl, by rfl, by rfl, by rfl, by rfl, by rfl, by rfl, by rfl, trivial⟩, (by omega), (by omega), (by assumption), (by exact bs_hiP hr (by omega) (by assumption)), c_16⟩
    omega
  ·
   refine K.x ((((i : Nat) : Int) : Int) < (((j : Nat) : Int) : Int)) h_11 ?_
   refine K.z (K.t (K.f ?_))
   refine K.KW.exit ?_
   refine K.thn_exit ?_
   refine K.thn_exit ?_
   refine K.blk_hit ?_
   refine K.t (K.s ?_)
   by_cases h_20 : (((i : Nat) : Int) : Int) < (((xs.length : Nat) : Int) : Int)
   ·
    obtain ⟨b_21, of_22, rfl, _⟩ := hx.at_ (by omega)
    refine K.g (K.q [K.iv ((i : Nat) : Int), K.iv ((i : Nat) : Int), K.iv ((xs.length : Nat) : Int)] ?_)
    refine K.y ((((i : Nat) : Int) : Int) < (((xs.length : Nat) : Int) : Int)) h_20 ?_
    refine K.q [.bool true, .func (.func 88) [].toArray [K.pa b].toArray, .slice (some ⟨b_21, of_22, none⟩) xs.length cap, K.iv ((i : Nat) : Int)] ?_
    refine K.a (K.QR.ix (of_22 + i * 2) 2 rfl rfl rfl Try.underlying28 (by kernel_rfl) (by omega) (by first | (simp; done) | omega | (simp; omega))) ?_
    refine K.a (K.QR.ldN [.int .u32 ((xs.getD i p0).key), .int .u32 ((xs.getD i p0).val)] rfl rfl (by kernel_rfl) (by kernel_rfl) (K.cells (K.cl (c_5.cell (hx.ld i (by omega) 0 _ rfl) id) (K.cl (c_5.cell (hx.ld i (by omega) 1 _ rfl) id) K.cl0)))) ?_
    refine K.q [.int .u32 k] ?_
    refine K.l (K.OW.callv rfl [.agg #[.int .u32 ((xs.getD i p0).key), .int .u32 ((xs.getD i p0).val)], .int .u32 k, K.pa b] rfl rfl rfl (by kernel_rfl) (byP_ok ((xs.getD i p0).key) ((xs.getD i p0).val) k _ _ (hb.no c_5)) ?_)
    rintro _ w_24 ⟨rfl, c_23⟩
    have c_25 := c_5.no c_23
    have z_26 := c_25.size
    have zz_27 := c_23.size
    by_cases h_28 : ((cmpI ((xs.getD i p0).key) k) : Int) = (0 : Int)
    ·
     refine K.ye ((cmpI ((xs.getD i p0).key) k) : Int) (0 : Int) h_28 ?_
     refine K.q [.bool true, K.iv ((i : Nat) : Int), .bool true] (K.z (K.t (K.r ?_)))
     refine ⟨.inr rfl, rfl, (.tuple #[K.iv ((i : Nat) : Int), .bool true]), K.res2 rfl rfl rfl, ?_⟩
     have hp := bs_endP (xs := xs) (k := k) (i := i) (j := j) (by omega) (by omega) (by assumption) (by assumption)
     rw [hp]
     exact ⟨by first | rw [← hasP_t hp (by omega) (by assumption)] | rw [← hasP_f hp (by assumption)] | rw [← hasP_n hp (by omega)], c_25⟩
    ·
     refine K.xe ((cmpI ((xs.getD i p0).key) k) : Int) (0 : Int) h_28 ?_
     refine K.q [.bool false, K.iv ((i : Nat) : Int), .bool false] (K.z (K.t (K.r ?_)))
     refine ⟨.inr rfl, rfl, (.tuple #[K.iv ((i : Nat) : Int), .bool false]), K.res2 rfl rfl rfl, ?_⟩
     have hp := bs_endP (xs := xs) (k := k) (i := i) (j := j) (by omega) (by omega) (by assumption) (by assumption)
     rw [hp]
     exact ⟨by first | rw [← hasP_t hp (by omega) (by assumption)] | rw [← hasP_f hp (by assumption)] | rw [← hasP_n hp (by omega)], c_25⟩
   ·
    refine K.g (K.q [K.iv ((i : Nat) : Int), K.iv ((i : Nat) : Int), K.iv ((xs.length : Nat) : Int)] ?_)
    refine K.x ((((i : Nat) : Int) : Int) < (((xs.length : Nat) : Int) : Int)) h_20 ?_
    refine K.q [.bool false] (K.n_ (K.n_ (K.n_ (K.n_ (K.n_ (K.n_ (K.n_ (K.n_ (K.q [.bool false, K.iv ((i : Nat) : Int), .bool false] (K.z (K.t (K.r ?_))))))))))))
    refine ⟨.inr rfl, rfl, (.tuple #[K.iv ((i : Nat) : Int), .bool false]), K.res2 rfl rfl rfl, ?_⟩
    have hp := bs_endP (xs := xs) (k := k) (i := i) (j := j) (by omega) (by omega) (by assumption) (by assumption)
    rw [hp]
    exact ⟨by first | rw [← hasP_t hp (by omega) (by assumption)] | rw [← hasP_f hp (by assumption)] | rw [← hasP_n hp (by omega)], c_5⟩
set_option maxHeartbeats 1000000 in
set_option maxRecDepth 100000 in
theorem findU_ok (a : Option Addr) (cap : Nat) (xs : List Int) (k : Int) (w0 : World) (hm : xs.length ≤ 1000000000) (hr : rising xs) (hx : RU32 w0 a xs) :
  K.KC Try.prog 71 #[.slice a xs.length cap, .int .u32 k, .func (.func 55) [].toArray [].toArray] w0 (fun v w' => v = .tuple #[K.iv (posT xs k), .bool (hasT xs k)] ∧ K.Chg K.No w0 w') := by
 refine K.KC.mk (n := 14) Try.func71 rfl rfl [.slice a xs.length cap, .int .u32 k, .func (.func 55) [].toArray [].toArray] rfl rfl ?_
 refine K.s ?_
 refine K.g ?_
 refine K.l (K.OW.new (t := 91) rfl (fun r => K.pa r) [.func (.func 55) [].toArray [].toArray] (by kernel_rfl) ?_)
 intro w_1 r_2 hr_3 e_4 hs_5 b_6
 have c_7 := e_4
 have z_8 := c_7.size
 have zz_9 := e_4.size
 refine K.q [K.iv 0, .bool false] (K.z (K.t (K.s ?_)))
 refine K.g (K.q [.slice a xs.length cap, .int .u32 k] ?_)
 refine K.a (K.QR.fn [] [K.pa r_2] rfl rfl rfl) ?_
 refine K.l (K.OW.call rfl [.slice a xs.length cap, .int .u32 k, .func (.func 85) [].toArray [K.pa r_2].toArray] rfl rfl (by kernel_rfl) (bsU_ok _ _ xs k _ _ (by omega) (by assumption) (hx.no c_7) b_6) ?_)
 rintro _ w_11 ⟨rfl, c_10⟩
 have c_12 := c_7.no c_10
 have z_13 := c_12.size
 have zz_14 := c_10.size
 have f_15 := b_6.no c_10
 refine K.q [K.iv (((posT xs k) : Nat) : Int), .bool (hasT xs k), K.iv (((posT xs k) : Nat) : Int), .bool (hasT xs k)] (K.z (K.t (K.r ?_)))
 refine ⟨.inr rfl, rfl, (.tuple #[K.iv (((posT xs k) : Nat) : Int), .bool (hasT xs k)]), K.res2 rfl rfl rfl, ?_⟩
 exact ⟨rfl, c_12⟩
set_option maxHeartbeats 1000000 in
set_option maxRecDepth 100000 in
theorem findP_ok (a : Option Addr) (cap : Nat) (xs : List PairM) (k : Int) (w0 : World) (hm : xs.length ≤ 1000000000) (hr : rising (keysP xs)) (hx : RPr w0 a xs) :
  K.KC Try.prog 72 #[.slice a xs.length cap, .int .u32 k, .func (.func 57) [].toArray [].toArray] w0 (fun v w' => v = .tuple #[K.iv (posT (keysP xs) k), .bool (hasT (keysP xs) k)] ∧ K.Chg K.No w0 w') := by
 refine K.KC.mk (n := 14) Try.func72 rfl rfl [.slice a xs.length cap, .int .u32 k, .func (.func 57) [].toArray [].toArray] rfl rfl ?_
 refine K.s ?_
 refine K.g ?_
 refine K.l (K.OW.new (t := 93) rfl (fun r => K.pa r) [.func (.func 57) [].toArray [].toArray] (by kernel_rfl) ?_)
 intro w_1 r_2 hr_3 e_4 hs_5 b_6
 have c_7 := e_4
 have z_8 := c_7.size
 have zz_9 := e_4.size
 refine K.q [K.iv 0, .bool false] (K.z (K.t (K.s ?_)))
 refine K.g (K.q [.slice a xs.length cap, .int .u32 k] ?_)
 refine K.a (K.QR.fn [] [K.pa r_2] rfl rfl rfl) ?_
 refine K.l (K.OW.call rfl [.slice a xs.length cap, .int .u32 k, .func (.func 88) [].toArray [K.pa r_2].toArray] rfl rfl (by kernel_rfl) (bsP_ok _ _ xs k _ _ (by omega) (by assumption) (hx.no c_7) b_6) ?_)
 rintro _ w_11 ⟨rfl, c_10⟩
 have c_12 := c_7.no c_10
 have z_13 := c_12.size
 have zz_14 := c_10.size
 have f_15 := b_6.no c_10
 refine K.q [K.iv (((posT (keysP xs) k) : Nat) : Int), .bool (hasT (keysP xs) k), K.iv (((posT (keysP xs) k) : Nat) : Int), .bool (hasT (keysP xs) k)] (K.z (K.t (K.r ?_)))
 refine ⟨.inr rfl, rfl, (.tuple #[K.iv (((posT (keysP xs) k) : Nat) : Int), .bool (hasT (keysP xs) k)]), K.res2 rfl rfl rfl, ?_⟩
 exact ⟨rfl, c_12⟩
set_option maxHeartbeats 1000000 in
set_option maxRecDepth 100000 in
theorem cloneU_ok (a : Option Addr) (cap : Nat) (xs : List Int) (w0 : World) (hm : xs.length ≤ 1000000000) (hx : RU32 w0 a xs) :
  K.KC Try.prog 82 #[.slice a xs.length cap] w0 (fun v w' => ∃ r c, v = .slice r xs.length c ∧ K.Chg K.No w0 w' ∧ K.Own w' w0.heap.size 45 1 r xs.length c ((xs).flatMap cU32)) := by
 refine K.KC.mk (n := 8) Try.func82 rfl rfl [.slice a xs.length cap] rfl rfl ?_
 refine K.s ?_
 refine K.g (K.q [.slice none 0 0] (K.z (K.t (K.s (K.s ?_)))))
 refine K.g (K.q [.slice a xs.length cap] ?_)
 rcases Option.eq_none_or_eq_some a with rfl | ⟨p, hp⟩
 ·
  refine K.a (K.QR.eqNil rfl rfl rfl Try.underlying27) ?_
  refine K.z (K.t (K.h (K.s ?_)))
  refine K.g (K.q [.slice none 0 0] (K.z (K.t (K.r (K.u ?_)))))
  refine ⟨.inr rfl, rfl, (.slice none 0 0), K.res1 rfl rfl, ?_⟩
  obtain ⟨rfl⟩ : xs = [] := by rcases hx with h | ⟨_, _, h, _⟩ <;> first | exact List.eq_nil_of_length_eq_zero h | cases h
  exact ⟨_, _, rfl, (K.Chg.refl _), K.Own.nil _ _ _ _⟩
 ·
  subst hp
  refine K.a (K.QR.eqNil rfl rfl rfl Try.underlying27) ?_
  refine K.z (K.t (K.f (K.k (K.t (K.s ?_)))))
  refine K.g ?_
  refine K.l (K.OW.bs rfl [] [] rfl rfl (fun w => K.bs_run0 (P := Try.prog) w 27 45 0 _ _ Try.underlying27 (by kernel_rfl)) ?_)
  intro w_1 r_2 hr_3 e_4 hs_5 b_6
  have c_7 := e_4
  have z_8 := c_7.size
  have zz_9 := e_4.size
  refine K.q [.slice (some p) xs.length cap] ?_
  refine K.l (K.OW.appR (P := Try.prog) (c := cU32) (L := []) (L2 := xs) (z := .int .u32 0) (size := 1) (bytes := 4) rfl 0 rfl rfl (K.Own.of_blkL (size := 1) (base := w0.heap.size) (n := 0) (c := cU32) (L := []) b_6 (by omega) rfl (by unfold maxLen; omega) (fun _ => rfl) rfl) rfl Try.underlying27 (by kernel_rfl) rfl (by decide) rfl (hx.no c_7) (fun _ => rfl) (fun _ => K.one_cells rfl) (by unfold maxLen; omega) (by omega) (by omega) ?_)
  intro a_10 cap_11 w_12 e_13 o_14 hn_15
  have c_16 := c_7.trans e_13 (fun i hi hy => absurd ((K.Own.of_blkL (size := 1) (base := w0.heap.size) (n := 0) (c := cU32) (L := []) b_6 (by omega) rfl (by unfold maxLen; omega) (fun _ => rfl) rfl).base_le i hy) (by omega))
  have z_17 := c_16.size
  have zz_18 := e_13.size
  have ln_19 : (([] ++ xs)).length = 0 + xs.length := by simp
  refine K.q [.slice a_10 (0 + xs.length) cap_11] (K.z (K.t (K.r ?_)))
  refine ⟨.inr rfl, rfl, (.slice a_10 (0 + xs.length) cap_11), K.res1 rfl rfl, ?_⟩
  have h0 : 0 + xs.length = xs.length := Nat.zero_add _
  exact ⟨a_10, cap_11, by rw [h0], c_16, by rw [h0] at *; simpa using o_14⟩
set_option maxHeartbeats 1000000 in
set_option maxRecDepth 100000 in
theorem cloneP_ok (a : Option Addr) (cap : Nat) (xs : List PairM) (w0 : World) (hm : xs.length ≤ 1000000000) (hx : RPr w0 a xs) :
  K.KC Try.prog 90 #[.slice a xs.length cap] w0 (fun v w' => ∃ r c, v = .slice r xs.length c ∧ K.Chg K.No w0 w' ∧ K.Own w' w0.heap.size 59 2 r xs.length c ((xs).flatMap cPair)) := by
 refine K.KC.mk (n := 8) Try.func90 rfl rfl [.slice a xs.length cap] rfl rfl ?_
 refine K.s ?_
 refine K.g (K.q [.slice none 0 0] (K.z (K.t (K.s (K.s ?_)))))
 refine K.g (K.q [.slice a xs.length cap] ?_)
 rcases Option.eq_none_or_eq_some a with rfl | ⟨p, hp⟩
 ·
  refine K.a (K.QR.eqNil rfl rfl rfl Try.underlying28) ?_
  refine K.z (K.t (K.h (K.s ?_)))
  refine K.g (K.q [.slice none 0 0] (K.z (K.t (K.r (K.u ?_)))))
  refine ⟨.inr rfl, rfl, (.slice none 0 0), K.res1 rfl rfl, ?_⟩
  obtain ⟨rfl⟩ : xs = [] := by rcases hx with h | ⟨_, _, h, _⟩ <;> first | exact List.eq_nil_of_length_eq_zero h | cases h
  exact ⟨_, _, rfl, (K.Chg.refl _), K.Own.nil _ _ _ _⟩
 ·
  subst hp
  refine K.a (K.QR.eqNil rfl rfl rfl Try.underlying28) ?_
  refine K.z (K.t (K.f (K.k (K.t (K.s ?_)))))
  refine K.g ?_
  refine K.l (K.OW.bs rfl [] [] rfl rfl (fun w => K.bs_run0 (P := Try.prog) w 28 59 0 _ _ Try.underlying28 (by kernel_rfl)) ?_)
  intro w_1 r_2 hr_3 e_4 hs_5 b_6
  have c_7 := e_4
  have z_8 := c_7.size
  have zz_9 := e_4.size
  refine K.q [.slice (some p) xs.length cap] ?_
  refine K.l (K.OW.appR (P := Try.prog) (c := cPair) (L := []) (L2 := xs) (z := .agg #[.int .u32 0, .int .u32 0]) (size := 2) (bytes := 8) rfl p0 rfl rfl (K.Own.of_blkL (size := 2) (base := w0.heap.size) (n := 0) (c := cPair) (L := []) b_6 (by omega) rfl (by unfold maxLen; omega) (fun _ => rfl) rfl) rfl Try.underlying28 (by kernel_rfl) rfl (by decide) rfl (hx.no c_7) (fun _ => rfl) (fun _ => K.one_cells rfl) (by unfold maxLen; omega) (by omega) (by omega) ?_)
  intro a_10 cap_11 w_12 e_13 o_14 hn_15
  have c_16 := c_7.trans e_13 (fun i hi hy => absurd ((K.Own.of_blkL (size := 2) (base := w0.heap.size) (n := 0) (c := cPair) (L := []) b_6 (by omega) rfl (by unfold maxLen; omega) (fun _ => rfl) rfl).base_le i hy) (by omega))
  have z_17 := c_16.size
  have zz_18 := e_13.size
  have ln_19 : (([] ++ xs)).length = 0 + xs.length := by simp
  refine K.q [.slice a_10 (0 + xs.length) cap_11] (K.z (K.t (K.r ?_)))
  refine ⟨.inr rfl, rfl, (.slice a_10 (0 + xs.length) cap_11), K.res1 rfl rfl, ?_⟩
  have h0 : 0 + xs.length = xs.length := Nat.zero_add _
  exact ⟨a_10, cap_11, by rw [h0], c_16, by rw [h0] at *; simpa using o_14⟩
end Go.Proofs.Ytnehocjmgnhhhaa
