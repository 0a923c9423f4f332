import Derived.Test.YtbfafebfkdbglaaGreatFlin
import Derived.Test.YtbfafebfkdbglaaGreatFlist
/- Contracts: lines, images, and the references of layer 3. -/
namespace Go.Proofs.YtbfafebfkdbglaaGreat
open Go.RowKit
set_option linter.unusedVariables false
attribute [local irreducible] K.KW K.RW K.DW K.OW K.QR K.KC
set_option maxHeartbeats 1000000 in
set_option maxRecDepth 100000 in
theorem partsW_ok (a : Option Addr) (len cap sz : Nat) (w0 : World) :
  K.KC Tryz.prog 162 #[.slice a len cap, K.iv ((sz : Nat) : Int)] w0 (fun v w' => ∃ bl bs, v = .func (.func 183) [].toArray [K.pa bl, K.pa bs].toArray ∧ K.Chg K.No w0 w' ∧ w0.heap.size ≤ bl ∧ w0.heap.size ≤ bs ∧ bl ≠ bs ∧ K.Blk w' bl 78 [.slice a len cap] ∧ K.Blk w' bs 3 [K.iv ((sz : Nat) : Int)]) := by
 refine K.KC.mk (n := 6) Tryz.func162 rfl rfl [.slice a len cap, K.iv ((sz : Nat) : Int)] rfl rfl ?_
 refine K.s ?_
 -- region 0 lines.go:18
 refine K.g ?_
 refine K.l (K.OW.new (t := 78) rfl (fun r => K.pa r) [.slice a len cap] (by kernel_rfl) ?_)
 intro w_1 r_2 hr_3 e_4 hs_5 b_6
 have c_7 := e_4
 have z_8 := c_7.size
 have zz_9 := e_4.size
 refine K.l (K.OW.new (t := 3) rfl (fun r => K.pa r) [K.iv ((sz : Nat) : Int)] (by kernel_rfl) ?_)
 intro w_10 r_11 hr_12 e_13 hs_14 b_15
 have c_16 := c_7.no e_13
 have z_17 := c_16.size
 have zz_18 := e_13.size
 have f_19 := b_6.no e_13
 refine K.q [.nilFunc] (K.z (K.t (K.s ?_)))
 -- region 1 lines.go:19
 refine K.g ?_
 refine K.a (K.QR.fn [] [K.pa r_2, K.pa r_11] rfl rfl rfl) ?_
 refine K.q [.func (.func 183) [].toArray [K.pa r_2, K.pa r_11].toArray] (K.z (K.t (K.r ?_)))
 refine ⟨.inr rfl, rfl, (.func (.func 183) [].toArray [K.pa r_2, K.pa r_11].toArray), K.res1 rfl rfl, ?_⟩
 exact ⟨_, _, rfl, c_16, by omega, by omega, by omega, f_19, b_15⟩
set_option maxHeartbeats 1000000 in
set_option maxRecDepth 100000 in
theorem partsItW_ok (l bl bs : Nat) (a : Option Addr) (xs : List Int) (cap n sz : Nat) (w0 : World) (J : Nat → World → Prop) (Jx : World → Prop) (hsz : 0 < sz) (hlen : xs.length ≤ 9223372036854775807) (hcap : xs.length ≤ cap) (hne : bl ≠ bs) (hn : xs.length = n) (hb : K.Blk w0 bl 78 [.slice a n cap]) (hs : K.Blk w0 bs 3 [K.iv ((sz : Nat) : Int)]) (hrow : RU64 w0 a xs) (hab : 0 < xs.length → ∀ k, K.Ow a k → k ≠ bl) (J0 : J 0 w0) (hJ : ∀ k W W', J k W → (∃ cs, K.Blk W bl 78 cs) → K.Chg (K.Is bl) W W' → W'.heap.size = W.heap.size → J k W') (hy : ∀ k W p c, k < xs.length / sz → J k W → K.Blk W bl 78 [c] → K.Blk W bs 3 [K.iv ((sz : Nat) : Int)] → K.RowE W p sz 1 (fun i => cU64 (((xs.drop (k * sz)).take sz).getD i 0)) → (∀ q, K.Ow p q → K.Ow a q) → K.YS Tryz.prog l [.slice p sz sz] W (fun v W' => K.Chg (fun _ => True) W W' ∧ ((v = .bool true ∧ J (k + 1) W' ∧ (∀ q, (K.Ow a q ∨ q = bl ∨ q = bs) → W'.heap[q]? = W.heap[q]?)) ∨ (v = .bool false ∧ Jx W')))) :
  K.KC Tryz.prog 183 #[.func (.yield l) #[] #[], K.pa bl, K.pa bs] w0 (fun v w' => v = .tuple #[] ∧ (J (xs.length / sz) w' ∨ Jx w')) := by
 refine K.KC.mk (n := 18) Tryz.func183 rfl rfl [.func (.yield l) #[] #[], K.pa bl, K.pa bs] rfl rfl ?_
 have c_0 : K.Chg (fun _ => True) w0 w0 := (K.Chg.refl w0).mono fun _ _ h => h.elim
 refine K.KW.block ?_
 refine K.KW.loop (fun m_ F_ w_1 => ∃ (k : Nat) (ys : List Int) (p : Option Addr) (c : Nat), m_ = ys.length ∧ K.Sl F_ [(0, .func (.yield l) #[] #[]), (1, K.pa bl), (2, K.pa bs), (18, undef)] ∧ ys = xs.drop (k * sz) ∧ k * sz ≤ xs.length ∧ ys.length ≤ c ∧ J k w_1 ∧ (∀ q, K.Ow p q → K.Ow a q) ∧ K.Chg (fun _ => True) w0 w_1 ∧ K.Blk w_1 bl 78 [.slice p ys.length c] ∧ K.Blk w_1 bs 3 [K.iv ((sz : Nat) : Int)] ∧ K.RowE w_1 p ys.length 1 (fun i => cU64 (ys.getD i 0))) ((fun (k : Nat) (ys : List Int) (p : Option Addr) (c : Nat) => ys.length) 0 xs a cap) ?_ ?_
 ·
  exact ⟨0, xs, a, cap, rfl, ⟨by rfl, by rfl, by rfl, by rfl, trivial⟩, (by simp), (by omega), (by omega), (J0), (fun _ h => h), c_0, (by rw [hn]; exact hb), hs, hrow⟩
 ·
  intro m_2 F_3 w_1 hI
  obtain ⟨k, ys, p, c, rfl, sl_4, hys, p_6, p_7, p_8, p_9, c_5, f_10, f_11, f_12⟩ := hI
  rw [← K.Sl.puts sl_4]; clear sl_4
  have z_13 := c_5.size
  refine K.s (K.s ?_)
  -- region 0 lines.go:20
  refine K.g ?_
  refine K.d (.slice p ys.length c) (f_10.cell rfl) ?_
  refine K.a (K.QR.len (P := Tryz.prog) rfl rfl Tryz.underlying78) ?_
  refine K.d (K.iv ((sz : Nat) : Int)) (f_11.cell rfl) ?_
  by_cases h_14 : (((ys.length : Nat) : Int) : Int) ≥ (((sz : Nat) : Int) : Int)
  ·
   refine K.y ((((ys.length : Nat) : Int) : Int) ≥ (((sz : Nat) : Int) : Int)) h_14 ?_
   refine K.z (K.t (K.h (K.k (K.t ?_))))
   refine K.KW.block ?_
   refine K.s (K.s ?_)
   -- region 1 lines.go:21
   refine K.KW.regionY ?_
   refine K.RY.q rfl rfl (K.QR.k (v := .func (.yield l) #[] #[]) (by kernel_rfl)) ?_
   refine K.RY.q rfl rfl (K.QR.ld1 (v := .slice p ys.length c) rfl rfl (by kernel_rfl) (f_10.cell rfl)) ?_
   refine K.RY.q rfl rfl (K.QR.ld1 (v := K.iv ((sz : Nat) : Int)) rfl rfl (by kernel_rfl) (f_11.cell rfl)) ?_
   refine K.RY.q rfl rfl (K.QR.ld1 (v := K.iv ((sz : Nat) : Int)) rfl rfl (by kernel_rfl) (f_11.cell rfl)) ?_
   have sl_15 := K.RowE.take (c := cU64) (d := 0) (L := ys) (f_12) sz (by omega)
   have n_16 : (ys.take sz).length = sz := by rw [List.length_take]; omega
   refine K.RY.q rfl rfl (K.QR.slFull (size := 1) sz rfl rfl rfl rfl Tryz.underlying78 (by kernel_rfl) (by omega)) ?_
   have hk_17 : k < xs.length / sz := parts_lt (m := ys.length) (by rw [hys, List.length_drop]) (by assumption) hsz (by omega)
   have hrow_18 : K.RowE w_1 p sz 1 (fun i => cU64 (((xs.drop (k * sz)).take sz).getD i 0)) := by rw [← hys]; exact K.RowE.len sl_15 (by rw [List.length_take]; omega)
   have hx0 : 0 < xs.length := by have h := congrArg List.length hys; rw [List.length_drop] at h; omega
   refine K.RY.yield rfl rfl [.slice p sz sz] rfl rfl rfl (hy k w_1 p _ hk_17 (by assumption) f_10 f_11 hrow_18 p_9) ?_
   rintro v_19 w_20 ⟨e_21, h⟩
   rcases h with ⟨rfl, hj_22, same_23⟩ | ⟨rfl, hj_22⟩
   ·
    have c_24 := c_5.trans e_21 (fun _ _ _ => trivial)
    have z_25 := c_24.size
    have z_26 := e_21.size
    have f_27 := (same_23 _ (.inr <| .inl rfl)).trans f_10
    have f_28 := (same_23 _ (.inr <| .inr rfl)).trans f_11
    have f_29 := K.RowE.same f_12 (fun q hq => same_23 q (.inl (p_9 q hq)))
    have f_30 := K.RowE.same sl_15 (fun q hq => same_23 q (.inl (p_9 q hq)))
    change K.Blk w_20 _ _ _ at f_27
    change K.Blk w_20 _ _ _ at f_28
    refine K.RY.q rfl rfl (K.QR.k (v := .bool false) (by kernel_rfl)) ?_
    refine K.RY.nil ?_
    refine K.t (K.f (K.k (K.t ?_)))
    -- region 2 lines.go:24
    refine K.g ?_
    refine K.d (.slice p ys.length c) (f_27.cell rfl) ?_
    refine K.d (K.iv ((sz : Nat) : Int)) (f_28.cell rfl) ?_
    have sl_31 := K.RowE.drop (c := cU64) (d := 0) (L := ys) (cap := c) (f_29) sz (by omega) (by omega)
    have n_32 : (ys.drop sz).length = ys.length - sz := List.length_drop
    refine K.a (K.QR.slLo (size := 1) (m := ys.length) (k := ((ys.drop sz).length)) sz rfl rfl rfl Tryz.underlying78 (by kernel_rfl) (by omega) (by omega)) ?_
    refine K.l (K.OW.st [.slice (K.shift p c sz 1) ((ys.drop sz).length) (c - sz)] [.slice (K.shift p c sz 1) ((ys.drop sz).length) (c - sz)] rfl rfl rfl (by kernel_rfl) f_27 rfl (K.one_cells (by rfl)) rfl rfl ?_)
    intro w_33 e_34 hs_35 b_36
    have c_37 := c_24.trans e_34 (fun i hi hy => trivial)
    have z_38 := c_37.size
    have zz_39 := e_34.size
    have f_40 := f_28.chg e_34 (f_28.ne f_27 (by decide))
    have f_41 := f_29.chg e_34 (fun k hk hy => hab hx0 k (p_9 k hk) hy)
    have f_42 := f_30.chg e_34 (fun k hk hy => hab hx0 k (p_9 k hk) hy)
    have f_43 := sl_31.chg e_34 (fun k hk hy => hab hx0 k ((fun q hq => p_9 q (K.shift_ow q hq)) k hk) hy)
    refine K.z ?_
    refine K.blk_normal ?_
    refine K.t ?_
    refine ⟨_, ?_, k + 1, (ys.drop sz), (K.shift p c sz 1), c - sz, rfl, ⟨by rfl, by rfl, by rfl, by rfl, trivial⟩, (by rw [hys, List.drop_drop, Nat.succ_mul]), (by rw [Nat.succ_mul]; have h := congrArg List.length hys; rw [List.length_drop] at h; omega), (by simp only [List.length_drop]; omega), (hJ _ _ _ hj_22 ⟨_, f_27⟩ (by assumption) (by assumption)), (fun q hq => (by assumption : ∀ q, K.Ow p q → K.Ow a q) q (K.shift_ow q hq)), c_37, b_36, f_40, f_43⟩
    simp only [List.length_drop]; omega
   ·
    have c_44 := c_5.trans e_21 (fun _ _ _ => trivial)
    refine K.RY.q rfl rfl (K.QR.k (v := .bool true) (by kernel_rfl)) ?_
    refine K.RY.nil ?_
    refine K.t (K.h (K.r (K.u ?_)))
    refine K.blk_ret ?_
    refine K.u ?_
    refine K.blk_ret ?_
    refine ⟨.inr rfl, rfl, _, K.res0 rfl, ?_⟩
    exact ⟨rfl, .inr hj_22⟩
  ·
   refine K.x ((((ys.length : Nat) : Int) : Int) ≥ (((sz : Nat) : Int) : Int)) h_14 ?_
   refine K.z (K.t (K.f ?_))
   refine K.KW.exit ?_
   refine K.thn_exit ?_
   refine K.thn_exit ?_
   refine K.blk_hit ?_
   refine ⟨.inl rfl, rfl, _, K.res0 rfl, ?_⟩
   rw [← parts_end (m := ys.length) (by rw [hys, List.length_drop]) (by assumption) (by omega)]
   exact ⟨rfl, .inl (by assumption)⟩
def mayR (n size : Nat) : Int := if n % size = 0 then (if n / size > 262144 then 2 else 0) else 3
/-- the lines of words -/
def cutT (ws : List Int) (k : Nat) : List (List Int) := (List.range k).map fun i => (ws.drop (i * 8)).take 8
theorem cutT_succ (ws : List Int) (k : Nat) : cutT ws (k + 1) = cutT ws k ++ [(ws.drop (k * 8)).take 8] := by unfold cutT; rw [List.range_succ, List.map_append]; rfl
theorem cutT_len (ws : List Int) (k : Nat) : (cutT ws k).length = k := by simp [cutT]
def flatL (ls : List (List Int)) : List Int := ls.flatMap ln8
theorem flatL_snoc (ls : List (List Int)) (l : List Int) : flatL (ls ++ [l]) = flatL ls ++ ln8 l := by unfold flatL; simp
theorem take_snocL {ls : List (List Int)} {k : Nat} (h : k < ls.length) : ls.take (k + 1) = ls.take k ++ [ls.getD k []] := by
 rw [List.take_succ_eq_append_getElem h]; simp [h]
theorem flatL_take {ls : List (List Int)} {k : Nat} (h : k < ls.length) : flatL (ls.take (k + 1)) = flatL (ls.take k) ++ ln8 (ls.getD k []) := by rw [take_snocL h, flatL_snoc]
theorem mayR_small {n s : Nat} (h : (mayR n s : Int) = 0) : n / s ≤ 262144 := by
 unfold mayR at h
 split at h
 ·split at h
  ·omega
  ·omega
 ·omega
set_option maxHeartbeats 1000000 in
set_option maxRecDepth 100000 in
theorem whole8 (n : Nat) (w0 : World) (hn : n ≤ 9223372036854775807) :
  K.KC Tryz.prog 161 #[K.iv ((n : Nat) : Int), K.iv 8] w0 (fun v w' => v = K.iv (mayR n 8) ∧ K.Chg K.No w0 w') := by
 refine K.KC.mk (n := 15) Tryz.func161 rfl rfl [K.iv ((n : Nat) : Int), K.iv 8] rfl rfl ?_
 refine K.s ?_
 -- region 0 lines.go:30
 refine K.g (K.q [K.iv 0] (K.z (K.t (K.s ?_))))
 refine K.KW.block ?_
 refine K.s ?_
 -- region 1 lines.go:32
 refine K.g (K.q [K.iv ((n : Nat) : Int), K.iv 8] ?_)
 refine K.a (K.QR.remi64 (((n : Nat) : Int) : Int) 8 ((n % 8 : Nat) : Int) (by kernel_rfl) (by omega) (by omega)) ?_
 by_cases h_1 : (((n % 8 : Nat) : Int) : Int) = (0 : Int)
 ·
  refine K.xn (((n % 8 : Nat) : Int) : Int) (0 : Int) h_1 ?_
  refine K.q [.bool false] (K.z (K.t (K.f (K.s ?_))))
  -- region 3 lines.go:34
  refine K.g (K.q [K.iv ((n : Nat) : Int), K.iv 8] ?_)
  refine K.a (K.QR.quoi64 (((n : Nat) : Int) : Int) 8 ((n / 8 : Nat) : Int) (by kernel_rfl) (by omega) (by omega)) ?_
  by_cases h_2 : (((n / 8 : Nat) : Int) : Int) > (262144 : Int)
  ·
   refine K.y ((((n / 8 : Nat) : Int) : Int) > (262144 : Int)) h_2 ?_
   refine K.q [.bool true] (K.z (K.t (K.h (K.s ?_))))
   -- region 4 lines.go:35
   refine K.g (K.q [K.iv 2] (K.z (K.t (K.r ?_))))
   refine K.blk_ret ?_
   refine K.u ?_
   refine ⟨.inr rfl, rfl, (K.iv 2), K.res1 rfl rfl, ?_⟩
   exact ⟨congrArg (Value.int .i64) (by unfold mayR; (repeat' split) <;> omega), (K.Chg.refl _)⟩
  ·
   refine K.x ((((n / 8 : Nat) : Int) : Int) > (262144 : Int)) h_2 ?_
   refine K.q [.bool false] (K.z (K.t (K.f (K.k ?_))))
   refine K.blk_normal ?_
   refine K.t (K.s ?_)
   -- region 5 lines.go:37
   refine K.g (K.q [K.iv 0] (K.z (K.t (K.r ?_))))
   refine ⟨.inr rfl, rfl, (K.iv 0), K.res1 rfl rfl, ?_⟩
   exact ⟨congrArg (Value.int .i64) (by unfold mayR; (repeat' split) <;> omega), (K.Chg.refl _)⟩
 ·
  refine K.yn (((n % 8 : Nat) : Int) : Int) (0 : Int) h_1 ?_
  refine K.q [.bool true] (K.z (K.t (K.h (K.s ?_))))
  -- region 2 lines.go:33
  refine K.g (K.q [K.iv 3] (K.z (K.t (K.r ?_))))
  refine K.blk_ret ?_
  refine K.u ?_
  refine ⟨.inr rfl, rfl, (K.iv 3), K.res1 rfl rfl, ?_⟩
  exact ⟨congrArg (Value.int .i64) (by unfold mayR; (repeat' split) <;> omega), (K.Chg.refl _)⟩
set_option maxHeartbeats 1000000 in
set_option maxRecDepth 100000 in
theorem cut_ok (a : Option Addr) (cap : Nat) (xs : List Int) (w0 : World) (hm : xs.length ≤ 9223372036854775807) (hc : xs.length ≤ cap) (hx : RU64 w0 a xs) :
  K.KC Tryz.prog 114 #[.slice a xs.length cap] w0 (fun v w' => ∃ r m c, v = .tuple #[.slice r m c, K.iv (mayR xs.length 8)] ∧ K.Chg K.No w0 w' ∧ K.Own w' w0.heap.size 206 8 r m c ((if mayR xs.length 8 = 0 then cutT xs (xs.length / 8) else []).flatMap cLine) ∧ (if mayR xs.length 8 = 0 then cutT xs (xs.length / 8) else []).length = m) := by
 refine K.KC.mkD (n := 23) Tryz.func114 rfl rfl [.slice a xs.length cap] rfl rfl ?_
 refine K.s ?_
 -- region 0 lines.go:106
 refine K.g (K.q [.slice none 0 0, K.iv 0] (K.z (K.t (K.s (K.s ?_)))))
 -- region 1 lines.go:107
 refine K.g (K.q [.slice a xs.length cap] ?_)
 refine K.a (K.QR.len (P := Tryz.prog) rfl rfl Tryz.underlying78) ?_
 refine K.l (K.OW.call rfl [K.iv ((xs.length : Nat) : Int), K.iv 8] rfl rfl (by kernel_rfl) (whole8 xs.length _ (by first | omega | (simp; omega) | (simp; done))) ?_)
 rintro _ w_2 ⟨rfl, c_1⟩
 have c_3 := c_1
 have z_4 := c_3.size
 have zz_5 := c_1.size
 refine K.q [K.iv (mayR xs.length 8)] (K.z (K.t (K.s ?_)))
 -- region 2 lines.go:107
 refine K.g (K.q [K.iv (mayR xs.length 8)] ?_)
 by_cases h_6 : ((mayR xs.length 8) : Int) = (0 : Int)
 ·
  refine K.xn ((mayR xs.length 8) : Int) (0 : Int) h_6 ?_
  refine K.z (K.t (K.f (K.k (K.t (K.s ?_)))))
  -- region 4 lines.go:110
  refine K.g ?_
  refine K.l (K.OW.new (t := 177) rfl (fun r => K.pa r) [.slice none 0 0] (by kernel_rfl) ?_)
  intro w_7 r_8 hr_9 e_10 hs_11 b_12
  have c_13 := c_3.no e_10
  have z_14 := c_13.size
  have zz_15 := e_10.size
  refine K.z (K.t (K.s (K.s ?_)))
  -- region 5 lines.go:111
  have hsm := mayR_small (n := xs.length) (s := 8) (by assumption)
  refine K.g (K.q [.slice a xs.length cap] ?_)
  refine K.l (K.OW.call rfl [.slice a xs.length cap, K.iv 8] rfl rfl (by kernel_rfl) (partsW_ok a xs.length cap 8 _) ?_)
  rintro _ w_24 ⟨bl_16, bs_17, rfl, c_18, h_19, h_20, h_21, b_22, b_23⟩
  have c_25 := c_13.no c_18
  have z_26 := c_25.size
  have zz_27 := c_18.size
  have f_28 := b_12.no c_18
  refine K.z (K.t ?_)
  refine K.KW.block ?_
  refine K.KW.range (first := []) (cap := [K.pa bl_16, K.pa bs_17]) rfl (by kernel_rfl) rfl ?_
  intro fid_29 w_30 rd_31 lp_32 hr_33 hl_34 hs_35 e_36 ob_37 ob_38
  generalize hrec_40 : K.mkLoop _ _ _ _ _ _ _ = rec_39 at ob_38
  have c_41 := c_25.no e_36
  have z_42 := c_41.size
  have zz_43 := e_36.size
  have f_44 := f_28.no e_36
  have f_45 := b_22.no e_36
  have f_46 := b_23.no e_36
  refine K.KC.mono (partsItW_ok lp_32 bl_16 bs_17 a xs cap xs.length 8 w_30 (fun k w_47 => ∃ (q : Option Addr) (m1 : Nat) (c1 : Nat), K.Ob w_47 rd_31 (.deferred (some [])) ∧ K.Ob w_47 lp_32 (.loop rec_39) ∧ K.Chg K.No w0 w_47 ∧ w0.heap.size ≤ rd_31 ∧ (cutT xs k).length = m1 ∧ m1 = k ∧ k ≤ xs.length / 8 ∧ K.Blk w_47 r_8 177 [.slice q m1 c1] ∧ K.Own w_47 w0.heap.size 206 8 q m1 c1 ((cutT xs k).flatMap cLine)) (fun _ => False) (by omega) (by omega) (by omega) (by omega) rfl f_45 f_46 (hx.no c_41) (fun h k hk => by have := K.RowE.lt hx h ⟨_, rfl⟩ k hk; omega) ?_ ?_ ?_) ?_
  ·exact ⟨none, 0, 0, ob_37, ob_38, c_41, by omega, (by rfl), (by omega), (by omega), f_44, K.Own.nil _ _ _ _⟩
  ·
   intro k_48 w_49 w_50 hJ_51 ⟨_, hb_52⟩ e_53 hs_54
   obtain ⟨q, m1, c1, ob_60, ob_61, c_62, hz_63, p_55, p_56, p_57, f_58, f_59⟩ := hJ_51
   have z_64 := c_62.size
   have c_65 := c_62.own e_53 (by omega)
   have z_66 := c_65.size
   have zz_67 := e_53.size
   have f_68 := ob_60.chg e_53 (ob_60.ne_blk hb_52)
   have f_69 := ob_61.chg e_53 (ob_61.ne_blk hb_52)
   have f_70 := f_58.chg e_53 (f_58.ne hb_52 (by decide))
   have f_71 := f_59.chg e_53 (fun k hk hy => f_59.ne_ty hb_52 (by decide) k hk hy)
   exact ⟨q, m1, c1, f_68, f_69, c_65, by omega, (p_55), (p_56), (p_57), f_70, f_71⟩
  ·
   intro k w_72 p_73 cc_74 hk_75 hJ_76 hbl_77 hbs_78 hrow_79 hpo_80
   obtain ⟨q, m1, c1, ob_87, ob_88, c_89, hz_90, p_82, p_83, p_84, f_85, f_86⟩ := hJ_76
   have z_91 := c_89.size
   have hra_81 := K.RowE.same hrow_79 (fun q hq => (c_89.block q (K.RowE.lt hx (by omega) ⟨_, rfl⟩ q (hpo_80 q hq)) id).symm)
   subst hrec_40
   refine K.YS.round (n := 23) (ps := [15]) ob_88.1 rfl rfl rfl rfl rfl ?_
   -- region 6 lines.go:111
   refine K.g (K.q [.slice p_73 8 8] (K.z ?_))
   refine ⟨_, ob_88, rfl, fun w_92 tn_93 ob_94 => ?_⟩
   have e_95 := K.Turn.chg tn_93
   have hs_96 := tn_93.size
   have c_97 := c_89.own e_95 (by omega)
   have z_98 := c_97.size
   have zz_99 := e_95.size
   have f_100 := ob_87.obj (by omega) e_95
   have f_101 := f_85.obj ob_88 e_95
   have f_102 := f_86.obj ob_88 e_95
   have f_103 := hbl_77.obj ob_88 e_95
   have f_104 := hbs_78.obj ob_88 e_95
   refine K.KW.block ?_
   -- region 7 lines.go:112
   obtain ⟨b_105, of_106, rfl, _⟩ := hra_81.at_ (by omega)
   refine K.KW.drawn (fun w => K.Chg K.No w0 w ∧ (w.cell? ⟨r_8, 0, none⟩ = some (.slice q m1 c1))) (by kernel_rfl) ?_
   intro w_107 e_108 hs_109
   have c_111 := c_97.no e_108
   have z_112 := c_111.size
   have zz_113 := e_108.size
   have f_114 := f_100.no e_108
   have f_115 := ob_94.no e_108
   have f_116 := f_101.no e_108
   have f_117 := f_102.no e_108
   have f_118 := f_103.no e_108
   have f_119 := f_104.no e_108
   have hS_110 : (fun w => K.Chg K.No w0 w ∧ (w.cell? ⟨r_8, 0, none⟩ = some (.slice q m1 c1))) w_107 := ⟨c_111, ((f_116).cell rfl)⟩
   refine K.o_ 0 rfl (.slice q m1 c1) (fun w hS => (hS.2)) hS_110 ?_
   refine K.b 1 rfl (.slice (some ⟨b_105, of_106, none⟩) 8 8) hS_110 ?_
   refine K.c 2 rfl (K.QR.s2a rfl rfl Tryz.underlying206 (by omega)) hS_110 ?_
   refine K.c 3 rfl (K.QR.ldN [.int .u64 (((xs.drop (k * 8)).take 8).getD 0 0), .int .u64 (((xs.drop (k * 8)).take 8).getD 1 0), .int .u64 (((xs.drop (k * 8)).take 8).getD 2 0), .int .u64 (((xs.drop (k * 8)).take 8).getD 3 0), .int .u64 (((xs.drop (k * 8)).take 8).getD 4 0), .int .u64 (((xs.drop (k * 8)).take 8).getD 5 0), .int .u64 (((xs.drop (k * 8)).take 8).getD 6 0), .int .u64 (((xs.drop (k * 8)).take 8).getD 7 0)] rfl rfl (by kernel_rfl) (by kernel_rfl) (K.cells (K.cl (c_111.cell (hra_81.ld 0 (by omega) 0 _ rfl) id) (K.cl (c_111.cell (hra_81.ld 1 (by omega) 0 _ rfl) id) (K.cl (c_111.cell (hra_81.ld 2 (by omega) 0 _ rfl) id) (K.cl (c_111.cell (hra_81.ld 3 (by omega) 0 _ rfl) id) (K.cl (c_111.cell (hra_81.ld 4 (by omega) 0 _ rfl) id) (K.cl (c_111.cell (hra_81.ld 5 (by omega) 0 _ rfl) id) (K.cl (c_111.cell (hra_81.ld 6 (by omega) 0 _ rfl) id) (K.cl (c_111.cell (hra_81.ld 7 (by omega) 0 _ rfl) id) K.cl0)))))))))) hS_110 ?_
   refine K.DW.l 4 rfl (by kernel_rfl) rfl (K.OW.bs rfl [(0, .agg #[.int .u64 (((xs.drop (k * 8)).take 8).getD 0 0), .int .u64 (((xs.drop (k * 8)).take 8).getD 1 0), .int .u64 (((xs.drop (k * 8)).take 8).getD 2 0), .int .u64 (((xs.drop (k * 8)).take 8).getD 3 0), .int .u64 (((xs.drop (k * 8)).take 8).getD 4 0), .int .u64 (((xs.drop (k * 8)).take 8).getD 5 0), .int .u64 (((xs.drop (k * 8)).take 8).getD 6 0), .int .u64 (((xs.drop (k * 8)).take 8).getD 7 0)])] [.int .u64 (((xs.drop (k * 8)).take 8).getD 0 0), .int .u64 (((xs.drop (k * 8)).take 8).getD 1 0), .int .u64 (((xs.drop (k * 8)).take 8).getD 2 0), .int .u64 (((xs.drop (k * 8)).take 8).getD 3 0), .int .u64 (((xs.drop (k * 8)).take 8).getD 4 0), .int .u64 (((xs.drop (k * 8)).take 8).getD 5 0), .int .u64 (((xs.drop (k * 8)).take 8).getD 6 0), .int .u64 (((xs.drop (k * 8)).take 8).getD 7 0)] rfl rfl (fun w => K.bs_run (P := Tryz.prog) w 177 206 1 _ _ Tryz.underlying177 (by kernel_rfl)) ?_)
   intro w_120 r_121 hr_122 e_123 hs_124 b_125
   have c_126 := c_111.no e_123
   have z_127 := c_126.size
   have zz_128 := e_123.size
   have f_129 := f_114.no e_123
   have f_130 := f_115.no e_123
   have f_131 := f_116.no e_123
   have f_132 := f_117.no e_123
   have f_133 := f_118.no e_123
   have f_134 := f_119.no e_123
   have ap_135 : ∀ k, K.Ow q k → ¬ k = r_121 := fun k hk he => absurd (f_117.lt k hk) (by omega)
   have hS_136 : (fun w => K.Chg K.No w0 w ∧ (w.cell? ⟨r_8, 0, none⟩ = some (.slice q m1 c1))) w_120 := ⟨c_126, ((f_131).cell rfl)⟩
   refine ⟨.inl hS_136, ?_⟩
   refine K.DW.l 5 rfl (by kernel_rfl) rfl (K.OW.app2 (P := Tryz.prog) (xs := ((cutT xs k)).flatMap cLine) (z := .agg #[.int .u64 0, .int .u64 0, .int .u64 0, .int .u64 0, .int .u64 0, .int .u64 0, .int .u64 0, .int .u64 0]) (size := 8) (bytes := 64) rfl [.int .u64 (((xs.drop (k * 8)).take 8).getD 0 0), .int .u64 (((xs.drop (k * 8)).take 8).getD 1 0), .int .u64 (((xs.drop (k * 8)).take 8).getD 2 0), .int .u64 (((xs.drop (k * 8)).take 8).getD 3 0), .int .u64 (((xs.drop (k * 8)).take 8).getD 4 0), .int .u64 (((xs.drop (k * 8)).take 8).getD 5 0), .int .u64 (((xs.drop (k * 8)).take 8).getD 6 0), .int .u64 (((xs.drop (k * 8)).take 8).getD 7 0)] rfl rfl f_132 rfl Tryz.underlying177 (by kernel_rfl) rfl (by decide) (by rfl) (fun j u hj => (by rw [Nat.zero_add]; exact b_125.cell hj)) (K.one_cells (by rfl)) (by unfold maxLen; omega) (by omega) (by omega) ?_)
   intro a_137 cap_138 w_139 e_140 o_141 hk_142
   have c_143 := c_126.trans e_140 (fun i hi hy => absurd (f_132.base_le i hy) (by omega))
   have z_144 := c_143.size
   have zz_145 := e_140.size
   have f_146 := f_129.chg e_140 (f_129.ne_own f_132)
   have f_147 := f_130.chg e_140 (f_130.ne_own f_132)
   have f_148 := f_131.chg e_140 (fun hk => f_132.ne_ty f_131 (by decide) _ hk rfl)
   have f_149 := f_133.chg e_140 (fun hk => f_132.ne_ty f_133 (by decide) _ hk rfl)
   have f_150 := f_134.chg e_140 (fun hk => f_132.ne_ty f_134 (by decide) _ hk rfl)
   have o_141t := K.Own.snoc (c := cLine) (L := (cutT xs k)) (((xs.drop (k * 8)).take 8) : List Int) rfl o_141
   have ln_151 : (((cutT xs k) ++ [(((xs.drop (k * 8)).take 8) : List Int)])).length = m1 + 1 := by rw [List.length_append, p_82]; rfl
   have hS_152 : (fun w => K.Chg K.No w0 w ∧ (w.cell? ⟨r_8, 0, none⟩ = some (.slice q m1 c1))) w_139 := ⟨c_143, ((f_148).cell rfl)⟩
   refine ⟨.inl hS_152, ?_⟩
   refine K.DW.l 6 rfl (by kernel_rfl) rfl (K.OW.st [.slice a_137 (m1 + 1) cap_138] [.slice a_137 (m1 + 1) cap_138] rfl rfl rfl (by kernel_rfl) f_148 rfl (K.one_cells (by rfl)) rfl rfl ?_)
   intro w_153 e_154 hs_155 b_156
   have c_157 := c_143.own e_154 (by omega)
   have z_158 := c_157.size
   have zz_159 := e_154.size
   have f_160 := f_146.chg e_154 (f_146.ne_blk f_148)
   have f_161 := f_147.chg e_154 (f_147.ne_blk f_148)
   have f_162 := f_149.chg e_154 (f_149.ne f_148 (by decide))
   have f_163 := f_150.chg e_154 (f_150.ne f_148 (by decide))
   have f_164 := o_141t.chg e_154 (fun k hk hy => o_141t.ne_ty f_148 (by decide) k hk hy)
   refine ⟨.inr (by kernel_rfl), ?_⟩
   refine K.DW.done (by kernel_rfl) ?_
   refine K.blk_normal ?_
   refine ⟨_, f_161, fun w_166 tn_167 ob_168 => ?_⟩
   have e_169 := K.Turn.chg tn_167
   have hs_170 := tn_167.size
   have c_171 := c_157.own e_169 (by omega)
   have z_172 := c_171.size
   have zz_173 := e_169.size
   have f_174 := f_160.obj (by omega) e_169
   have f_175 := b_156.obj f_161 e_169
   have f_176 := f_162.obj f_161 e_169
   have f_177 := f_163.obj f_161 e_169
   have f_178 := f_164.obj f_161 e_169
   refine ⟨K.Chg.anyOf c_89 c_171 (by omega), .inl ⟨rfl, ⟨a_137, m1 + 1, cap_138, f_174, ob_168, c_171, by omega, (by rw [cutT_succ]; exact ln_151), (by omega), (by omega), f_175, (by rw [cutT_succ]; exact f_178)⟩, ?_⟩⟩
   rintro q (hq | rfl | rfl)
   ·exact K.same_old c_89 c_171 (K.RowE.lt hx (by omega) ⟨_, rfl⟩) q hq
   ·exact K.Blk.same hbl_77 f_176
   ·exact K.Blk.same hbs_78 f_177
  ·
   rintro _ w_179 ⟨_, hJ_180 | h⟩
   case inr => exact h.elim
   obtain ⟨q, m1, c1, ob_186, ob_187, c_188, hz_189, p_181, p_182, p_183, f_184, f_185⟩ := hJ_180
   have z_190 := c_188.size
   subst hrec_40
   refine ⟨_, ob_187, (fun h => by cases h), fun w_191 tn_192 => ?_⟩
   have e_193 := K.Turn.chg tn_192
   have hs_194 := tn_192.size
   have c_195 := c_188.own e_193 (by omega)
   have z_196 := c_195.size
   have zz_197 := e_193.size
   have f_198 := ob_186.obj (by omega) e_193
   have f_199 := f_184.obj ob_187 e_193
   have f_200 := f_185.obj ob_187 e_193
   refine K.afterR_none rfl ?_
   refine K.blk_normal ?_
   refine K.t (K.s ?_)
   -- region 8 lines.go:114
   refine K.g ?_
   refine K.d (.slice q m1 c1) (f_199.cell rfl) ?_
   refine K.q [.slice q m1 c1, K.iv 0] (K.z (K.t (K.r ?_)))
   refine ⟨.inr rfl, .inr ⟨rd_31, rfl, f_198.1, fun w_201 tn_202 => ?_⟩⟩
   have e_203 := K.Turn.chg tn_202
   have hs_204 := tn_202.size
   have c_205 := c_195.own e_203 (by omega)
   have z_206 := c_205.size
   have zz_207 := e_203.size
   have f_208 := f_199.obj f_198 e_203
   have f_209 := f_200.obj f_198 e_203
   refine ⟨(.tuple #[.slice q m1 c1, K.iv 0]), K.resAt (rs := [.tmp 2, .tmp 3]) [.slice q m1 c1, K.iv 0] rfl ⟨rfl, rfl, trivial⟩, ?_⟩
   have h0 : mayR xs.length 8 = 0 := by assumption
   exact ⟨_, _, _, by rw [h0], c_205, by rw [if_pos h0]; exact f_209, by rw [if_pos h0]; exact p_181⟩
 ·
  refine K.yn ((mayR xs.length 8) : Int) (0 : Int) h_6 ?_
  refine K.z (K.t (K.h (K.s ?_)))
  -- region 3 lines.go:108
  refine K.g (K.q [K.iv (mayR xs.length 8), .slice none 0 0, K.iv (mayR xs.length 8)] (K.z (K.t (K.r (K.u ?_)))))
  refine ⟨.inr rfl, .inl ⟨rfl, (.tuple #[.slice none 0 0, K.iv (mayR xs.length 8)]), K.resAt (rs := [.tmp 2, .tmp 3]) [.slice none 0 0, K.iv (mayR xs.length 8)] rfl ⟨rfl, rfl, trivial⟩, ?_⟩⟩
  rw [if_neg (by assumption)]
  exact ⟨_, _, _, rfl, c_3, K.Own.nil _ _ _ _, rfl⟩
set_option maxHeartbeats 1000000 in
set_option maxRecDepth 100000 in
theorem words_ok (a : Option Addr) (cap : Nat) (ls : List (List Int)) (w0 : World) (hm : ls.length * 64 ≤ 140737488351232) (hx : RLn w0 a ls) :
  K.KC Tryz.prog 95 #[.slice a ls.length cap] w0 (fun v w' => ∃ r m c, v = .slice r m c ∧ K.Chg K.No w0 w' ∧ K.Own w' w0.heap.size 57 1 r m c ((flatL ls).flatMap cU64) ∧ (flatL ls).length = m) := by
 refine K.KC.mk (n := 17) Tryz.func95 rfl rfl [.slice a ls.length cap] rfl rfl ?_
 refine K.s ?_
 -- region 0 lines.go:97
 refine K.g (K.q [.slice none 0 0] (K.z (K.t (K.s ?_))))
 -- region 1 lines.go:98
 refine K.g (K.q [.slice none 0 0] (K.z (K.t (K.s (K.s ?_)))))
 -- region 2 lines.go:99
 refine K.g (K.q [.slice a ls.length cap] ?_)
 refine K.a (K.QR.len (P := Tryz.prog) rfl rfl Tryz.underlying177) ?_
 refine K.q [K.iv 0] (K.z (K.t ?_))
 refine K.KW.block ?_
 refine K.KW.loop (fun m_ F_ w_1 => ∃ (k : Nat) (r : Option Addr) (m1 : Nat) (c1 : Nat), m_ = ls.length - k ∧ K.Sl F_ [(0, .slice a ls.length cap), (2, .slice none 0 0), (3, .slice r m1 c1), (6, .slice a ls.length cap), (7, K.iv ((ls.length : Nat) : Int)), (8, K.iv ((k : Nat) : Int)), (17, undef)] ∧ k ≤ ls.length ∧ (flatL (ls.take k)).length = m1 ∧ m1 = 8 * k ∧ K.Chg K.No w0 w_1 ∧ K.Own w_1 w0.heap.size 57 1 r m1 c1 ((flatL (ls.take k)).flatMap cU64)) ((fun (k : Nat) (r : Option Addr) (m1 : Nat) (c1 : Nat) => ls.length - k) 0 none 0 0) ?_ ?_
 ·
  exact ⟨0, none, 0, 0, rfl, ⟨by rfl, by rfl, by rfl, by rfl, by rfl, by rfl, by rfl, trivial⟩, (by omega), (by rfl), (by omega), (K.Chg.refl _), K.Own.nil _ _ _ _⟩
 ·
  intro m_2 F_3 w_1 hI
  obtain ⟨k, r, m1, c1, rfl, sl_4, p_6, p_7, p_8, c_5, f_9⟩ := hI
  rw [← K.Sl.puts sl_4]; clear sl_4
  have z_10 := c_5.size
  refine K.s ?_
  -- region 3 lines.go:99
  refine K.g ?_
  by_cases h_11 : (((k : Nat) : Int) : Int) < (((ls.length : Nat) : Int) : Int)
  ·
   refine K.y ((((k : Nat) : Int) : Int) < (((ls.length : Nat) : Int) : Int)) h_11 ?_
   refine K.z (K.t (K.s (K.h (K.k (K.t (K.s ?_))))))
   refine K.KW.block ?_
   refine K.s ?_
   -- region 4 lines.go:99
   obtain ⟨b_12, of_13, rfl, _⟩ := hx.at_ (by omega)
   refine K.g ?_
   refine K.a (K.QR.ix (of_13 + k * 8) 8 rfl rfl rfl Tryz.underlying177 (by kernel_rfl) (by omega) (by first | (simp; done) | omega | (simp; omega))) ?_
   refine K.a (K.QR.ldN [.int .u64 ((ls.getD k ([] : List Int)).getD 0 0), .int .u64 ((ls.getD k ([] : List Int)).getD 1 0), .int .u64 ((ls.getD k ([] : List Int)).getD 2 0), .int .u64 ((ls.getD k ([] : List Int)).getD 3 0), .int .u64 ((ls.getD k ([] : List Int)).getD 4 0), .int .u64 ((ls.getD k ([] : List Int)).getD 5 0), .int .u64 ((ls.getD k ([] : List Int)).getD 6 0), .int .u64 ((ls.getD k ([] : List Int)).getD 7 0)] rfl rfl (by kernel_rfl) (by kernel_rfl) (K.cells (K.cl (c_5.cell (hx.ld k (by omega) 0 _ rfl) id) (K.cl (c_5.cell (hx.ld k (by omega) 1 _ rfl) id) (K.cl (c_5.cell (hx.ld k (by omega) 2 _ rfl) id) (K.cl (c_5.cell (hx.ld k (by omega) 3 _ rfl) id) (K.cl (c_5.cell (hx.ld k (by omega) 4 _ rfl) id) (K.cl (c_5.cell (hx.ld k (by omega) 5 _ rfl) id) (K.cl (c_5.cell (hx.ld k (by omega) 6 _ rfl) id) (K.cl (c_5.cell (hx.ld k (by omega) 7 _ rfl) id) K.cl0)))))))))) ?_
   refine K.l (K.OW.new (t := 206) rfl (fun r => K.pa r) [.int .u64 0, .int .u64 0, .int .u64 0, .int .u64 0, .int .u64 0, .int .u64 0, .int .u64 0, .int .u64 0] (by kernel_rfl) ?_)
   intro w_14 r_15 hr_16 e_17 hs_18 b_19
   have c_20 := c_5.no e_17
   have z_21 := c_20.size
   have zz_22 := e_17.size
   have f_23 := f_9.no e_17
   refine K.l (K.OW.st [.int .u64 ((ls.getD k ([] : List Int)).getD 0 0), .int .u64 ((ls.getD k ([] : List Int)).getD 1 0), .int .u64 ((ls.getD k ([] : List Int)).getD 2 0), .int .u64 ((ls.getD k ([] : List Int)).getD 3 0), .int .u64 ((ls.getD k ([] : List Int)).getD 4 0), .int .u64 ((ls.getD k ([] : List Int)).getD 5 0), .int .u64 ((ls.getD k ([] : List Int)).getD 6 0), .int .u64 ((ls.getD k ([] : List Int)).getD 7 0)] [.int .u64 ((ls.getD k ([] : List Int)).getD 0 0), .int .u64 ((ls.getD k ([] : List Int)).getD 1 0), .int .u64 ((ls.getD k ([] : List Int)).getD 2 0), .int .u64 ((ls.getD k ([] : List Int)).getD 3 0), .int .u64 ((ls.getD k ([] : List Int)).getD 4 0), .int .u64 ((ls.getD k ([] : List Int)).getD 5 0), .int .u64 ((ls.getD k ([] : List Int)).getD 6 0), .int .u64 ((ls.getD k ([] : List Int)).getD 7 0)] rfl rfl rfl (by kernel_rfl) b_19 rfl (K.one_cells (by rfl)) rfl rfl ?_)
   intro w_24 e_25 hs_26 b_27
   have c_28 := c_20.own e_25 (by omega)
   have z_29 := c_28.size
   have zz_30 := e_25.size
   have f_31 := f_23.chg e_25 (fun k hk hy => f_23.ne_ty b_19 (by decide) k hk hy)
   refine K.z (K.t ?_)
   -- region 5 lines.go:100
   refine K.g (K.q [.slice r m1 c1] ?_)
   have o_32 := K.Own.of_blkL (base := w0.heap.size) (n := 8) (c := cU64) (L := ([(ls.getD k ([] : List Int)).getD 0 0, (ls.getD k ([] : List Int)).getD 1 0, (ls.getD k ([] : List Int)).getD 2 0, (ls.getD k ([] : List Int)).getD 3 0, (ls.getD k ([] : List Int)).getD 4 0, (ls.getD k ([] : List Int)).getD 5 0, (ls.getD k ([] : List Int)).getD 6 0, (ls.getD k ([] : List Int)).getD 7 0] : List Int)) b_27 (by omega) rfl (by unfold maxLen; omega) (fun _ => rfl) rfl
   refine K.a (K.QR.slArr (size := 1) rfl rfl Tryz.underlying206 (by kernel_rfl)) ?_
   refine K.l (K.OW.appR (P := Tryz.prog) (c := cU64) (L := (flatL (ls.take k))) (L2 := ([(ls.getD k ([] : List Int)).getD 0 0, (ls.getD k ([] : List Int)).getD 1 0, (ls.getD k ([] : List Int)).getD 2 0, (ls.getD k ([] : List Int)).getD 3 0, (ls.getD k ([] : List Int)).getD 4 0, (ls.getD k ([] : List Int)).getD 5 0, (ls.getD k ([] : List Int)).getD 6 0, (ls.getD k ([] : List Int)).getD 7 0] : List Int)) (z := .int .u64 0) (size := 1) (bytes := 8) rfl 0 rfl rfl f_31 rfl Tryz.underlying78 (by kernel_rfl) rfl (by decide) rfl (K.Own.rowE 0 o_32 rfl (fun _ => rfl)) (fun _ => rfl) (fun _ => K.one_cells rfl) (by unfold maxLen; omega) (by omega) (by omega) ?_)
   intro a_33 cap_34 w_35 e_36 o_37 hn_38
   have c_39 := c_28.trans e_36 (fun i hi hy => absurd (f_31.base_le i hy) (by omega))
   have z_40 := c_39.size
   have zz_41 := e_36.size
   have f_42 := o_32.chg e_36 (fun k hk hy => o_32.ne_own f_31 (by decide) k hk hy)
   have ln_43 : (((flatL (ls.take k)) ++ ([(ls.getD k ([] : List Int)).getD 0 0, (ls.getD k ([] : List Int)).getD 1 0, (ls.getD k ([] : List Int)).getD 2 0, (ls.getD k ([] : List Int)).getD 3 0, (ls.getD k ([] : List Int)).getD 4 0, (ls.getD k ([] : List Int)).getD 5 0, (ls.getD k ([] : List Int)).getD 6 0, (ls.getD k ([] : List Int)).getD 7 0] : List Int))).length = m1 + 8 := by (rw [List.length_append, p_7]) <;> rfl
   refine K.q [.slice a_33 (m1 + 8) cap_34] (K.z ?_)
   refine K.blk_normal ?_
   refine K.t ?_
   -- region 6 lines.go:99
   refine K.g ?_
   refine K.a (K.QR.n64 ((((k : Nat) : Int) : Int) + (1 : Int)) ((k + 1 : Nat) : Int) (by kernel_rfl) (by omega)) ?_
   refine K.q [K.iv ((k + 1 : Nat) : Int)] (K.z (K.t ?_))
   refine ⟨_, ?_, k + 1, a_33, m1 + 8, cap_34, rfl, ⟨by rfl, by rfl, by rfl, by rfl, by rfl, by rfl, by rfl, trivial⟩, (by omega), (by rw [flatL_take (by omega)]; exact ln_43), (by omega), c_39, (by rw [flatL_take (by omega)]; exact o_37)⟩
   omega
  ·
   refine K.x ((((k : Nat) : Int) : Int) < (((ls.length : Nat) : Int) : Int)) h_11 ?_
   refine K.z (K.t (K.s (K.f ?_)))
   refine K.KW.exit ?_
   refine K.thn_exit ?_
   refine K.thn_exit ?_
   refine K.blk_hit ?_
   refine K.t (K.s ?_)
   -- region 7 lines.go:102
   refine K.g (K.q [.slice r m1 c1, .slice r m1 c1] (K.z (K.t (K.r ?_))))
   refine ⟨.inr rfl, rfl, (.slice r m1 c1), K.res1 rfl rfl, ?_⟩
   obtain rfl : k = ls.length := by omega
   rw [List.take_length] at *
   exact ⟨_, _, _, rfl, c_5, f_9, p_7⟩
end Go.Proofs.YtbfafebfkdbglaaGreat
