import Derived.Test.YtbfafebfkdbglaaGreatFsl2
import Derived.Test.YtbfafebfkdbglaaGreatFlin2
import Derived.Test.YtbfafebfkdbglaaGreatFlist
/- slices and cmp over int: Less, BinarySearch, Insert; Clone over int and lines. -/
namespace Go.Proofs.YtbfafebfkdbglaaGreat
open Go.RowKit
set_option linter.unusedVariables false
attribute [local irreducible] K.KW K.RW K.DW K.OW K.QR K.KC
set_option maxHeartbeats 1000000 in
set_option maxRecDepth 100000 in
theorem nanI_ok (x : Int) (w0 : World) :
  K.KC Tryz.prog 214 #[K.iv x] w0 (fun v w' => v = .bool false ∧ K.Chg K.No w0 w') := by
 refine K.KC.mk (n := 6) Tryz.func214 rfl rfl [K.iv x] rfl rfl ?_
 refine K.s ?_
 -- region 0 cmp.go:63
 refine K.g (K.q [.bool false] (K.z (K.t (K.s ?_))))
 -- region 1 cmp.go:64
 refine K.g (K.q [K.iv x, K.iv x] ?_)
 refine K.xn (x : Int) (x : Int) (rfl) ?_
 refine K.q [.bool false] (K.z (K.t (K.r ?_)))
 refine ⟨.inr rfl, rfl, (.bool false), K.res1 rfl rfl, ?_⟩
 exact ⟨rfl, (K.Chg.refl _)⟩
set_option maxHeartbeats 1000000 in
set_option maxRecDepth 100000 in
theorem nanSI_ok (x : Int) (w0 : World) :
  K.KC Tryz.prog 202 #[K.iv x] w0 (fun v w' => v = .bool false ∧ K.Chg K.No w0 w') := by
 refine K.KC.mk (n := 6) Tryz.func202 rfl rfl [K.iv x] rfl rfl ?_
 refine K.s ?_
 -- region 0 sort.go:194
 refine K.g (K.q [.bool false] (K.z (K.t (K.s ?_))))
 -- region 1 sort.go:195
 refine K.g (K.q [K.iv x, K.iv x] ?_)
 refine K.xn (x : Int) (x : Int) (rfl) ?_
 refine K.q [.bool false] (K.z (K.t (K.r ?_)))
 refine ⟨.inr rfl, rfl, (.bool false), K.res1 rfl rfl, ?_⟩
 exact ⟨rfl, (K.Chg.refl _)⟩
set_option maxHeartbeats 1000000 in
set_option maxRecDepth 100000 in
theorem lessI_ok (x y : Int) (w0 : World) :
  K.KC Tryz.prog 201 #[K.iv x, K.iv y] w0 (fun v w' => v = .bool (decide (x < y)) ∧ K.Chg K.No w0 w') := by
 refine K.KC.mk (n := 17) Tryz.func201 rfl rfl [K.iv x, K.iv y] rfl rfl ?_
 refine K.s ?_
 -- region 0 cmp.go:28
 refine K.g (K.q [.bool false] (K.z (K.t (K.s ?_))))
 -- region 1 cmp.go:29
 refine K.g (K.q [K.iv x] ?_)
 refine K.l (K.OW.call rfl [K.iv x] rfl rfl (by kernel_rfl) (nanI_ok x _) ?_)
 rintro _ w_2 ⟨rfl, c_1⟩
 have c_3 := c_1
 have z_4 := c_3.size
 have zz_5 := c_1.size
 refine K.q [.bool false] (K.n_ (K.n_ (K.n_ (K.q [.bool false, .bool false, K.iv x, K.iv y] ?_))))
 by_cases h_6 : (x : Int) < (y : Int)
 ·
  refine K.y ((x : Int) < (y : Int)) h_6 ?_
  refine K.q [.bool true, .bool true] (K.z (K.t (K.r ?_)))
  refine ⟨.inr rfl, rfl, (.bool true), K.res1 rfl rfl, ?_⟩
  exact ⟨congrArg Value.bool (decide_eq_true (by omega)).symm, c_3⟩
 ·
  refine K.x ((x : Int) < (y : Int)) h_6 ?_
  refine K.q [.bool false, .bool false] (K.z (K.t (K.r ?_)))
  refine ⟨.inr rfl, rfl, (.bool false), K.res1 rfl rfl, ?_⟩
  exact ⟨congrArg Value.bool (decide_eq_false (by omega)).symm, c_3⟩
theorem bs_loI {ks : List Int} {k : Int} {h : Nat} (hr : rising ks) (hl : h < ks.length) (hc : ks.getD h 0 < k) : ∀ q, q < h + 1 → ks.getD q 0 < k := bs_loU hr hl (cmpI_lt.2 hc)
theorem bs_hiI {ks : List Int} {k : Int} {h : Nat} (hr : rising ks) (hl : h < ks.length) (hc : ¬ ks.getD h 0 < k) : ∀ q, h ≤ q → q < ks.length → ¬ ks.getD q 0 < k := bs_hiU hr hl (fun h => hc (cmpI_lt.1 h))
theorem hasI_t {xs : List Int} {k : Int} {i : Nat} (hp : posT xs k = i) (hi : i < xs.length) (hc : xs.getD i 0 = k) : true = hasT xs k := hasU_t hp hi (cmpI_eq.2 hc)
theorem hasI_f {xs : List Int} {k : Int} {i : Nat} (hp : posT xs k = i) (hc : ¬ xs.getD i 0 = k) : false = hasT xs k := hasU_f hp (fun h => hc (cmpI_eq.1 h))
theorem ins1I (y : Int) : ∀ v ∈ cI64 y, v.oneCell' = true := K.one_cells (by rfl)
theorem ovlI {w : World} {base base2 vb g cv cap lb cb off n : Nat} {xs ys : List Value} (hne : ¬ vb = g) (how : K.Own w base 3 1 (some ⟨g, 0, none⟩) n cap xs) (hv : K.Own w base2 3 1 (some ⟨vb, 0, none⟩) 1 cv ys) (hc : 0 < cap) (hcv : 0 ≤ cv) :
  (callFunc 203 #[.slice (some ⟨vb, 0, none⟩) 1 cv, .slice (some ⟨g, off, none⟩) lb cb]).run Tryz.prog w = .ok (.value (.bool false)) w := by
 obtain ⟨c1, _, h1, _, _, hs1, _⟩ := how.cur
 obtain ⟨c2, _, h2, _, _, hs2, _⟩ := hv.cur
 have hz : ∀ w, (Go.sizeOf 3).run Tryz.prog w = .ok 1 w := fun w => by
  obtain ⟨i, hi, hsz⟩ := Option.map_eq_some_iff.1 (show (Tryz.prog.info? 3).map (·.size) = some 1 by kernel_rfl)
  simp [Go.sizeOf, typeInfo, hi, hsz]
 rw [run_callFunc_extern Tryz.func203 (by kernel_rfl) (by kernel_rfl) (by kernel_rfl) (e := Extern.SlicesOverlaps.overlaps #[44, 44] #[4]) (by kernel_rfl),
  Lib.run_overlaps_apart w 44 4 3 Tryz.underlying44 1 hz ⟨vb, 0, none⟩ ⟨g, off, none⟩ 1 cv lb cb hne 3 3 c2.size c1.size (by simp [World.shape?, h2]) (by simp [World.shape?, h1]) (by rw [hs1]; omega) (by simp [World.frozen?, h2]) (by simp [World.frozen?, h2])]
 rfl
set_option maxHeartbeats 1000000 in
set_option maxRecDepth 100000 in
theorem bsI_ok (a : Option Addr) (cap : Nat) (xs : List Int) (k : Int) (w0 : World) (hm : xs.length ≤ 1000000000) (hr : rising xs) (hx : RI64 w0 a xs) :
  K.KC Tryz.prog 189 #[.slice a xs.length cap, K.iv k] w0 (fun v w' => v = .tuple #[K.iv (posT xs k), .bool (hasT xs k)] ∧ K.Chg K.No w0 w') := by
 refine K.KC.mk (n := 54) Tryz.func189 rfl rfl [.slice a xs.length cap, K.iv k] rfl rfl ?_
 refine K.s ?_
 -- region 0 sort.go:126
 refine K.g (K.q [K.iv 0, .bool false] (K.z (K.t (K.s ?_))))
 -- region 1 sort.go:128
 refine K.g (K.q [.slice a xs.length cap] ?_)
 refine K.a (K.QR.len (P := Tryz.prog) rfl rfl Tryz.underlying44) ?_
 refine K.q [K.iv ((xs.length : Nat) : Int)] (K.z (K.t (K.s ?_)))
 -- region 2 sort.go:131
 refine K.g (K.q [K.iv ((xs.length : Nat) : Int), K.iv 0, K.iv ((xs.length : Nat) : Int)] (K.z (K.t (K.s ?_))))
 refine K.KW.block ?_
 refine K.KW.loop (fun m_ F_ w_1 => ∃ (i : Nat) (j : Nat), m_ = j - i ∧ K.Sl F_ [(0, .slice a xs.length cap), (1, K.iv k), (4, K.iv 0), (5, .bool false), (6, K.iv ((xs.length : Nat) : Int)), (7, K.iv ((i : Nat) : Int)), (8, K.iv ((j : Nat) : Int)), (54, undef)] ∧ i ≤ j ∧ j ≤ xs.length ∧ ((∀ q, q < i → xs.getD q 0 < k)) ∧ ((∀ q, j ≤ q → q < xs.length → ¬ xs.getD q 0 < k)) ∧ K.Chg K.No w0 w_1) ((fun (i : Nat) (j : Nat) => j - i) 0 xs.length) ?_ ?_
 ·
  exact ⟨0, xs.length, rfl, ⟨by rfl, by rfl, by rfl, by rfl, by rfl, by rfl, by rfl, by rfl, trivial⟩, (by omega), (by omega), (fun q h => by omega), (fun q h1 h2 => by omega), (K.Chg.refl _)⟩
 ·
  intro m_2 F_3 w_1 hI
  obtain ⟨i, j, rfl, sl_4, p_6, p_7, p_8, p_9, c_5⟩ := hI
  rw [← K.Sl.puts sl_4]; clear sl_4
  have z_10 := c_5.size
  refine K.s (K.s ?_)
  -- region 3 sort.go:132
  refine K.g (K.q [K.iv ((i : Nat) : Int), K.iv ((j : Nat) : Int)] ?_)
  by_cases h_11 : (((i : Nat) : Int) : Int) < (((j : Nat) : Int) : Int)
  ·
   refine K.y ((((i : Nat) : Int) : Int) < (((j : Nat) : Int) : Int)) h_11 ?_
   refine K.z (K.t (K.h (K.k (K.t ?_))))
   refine K.KW.block ?_
   refine K.s ?_
   -- region 4 sort.go:133
   refine K.g (K.q [K.iv ((i : Nat) : Int), K.iv ((j : Nat) : Int)] ?_)
   refine K.a (K.QR.n64 ((((i : Nat) : Int) : Int) + (((j : Nat) : Int) : Int)) ((i + j : Nat) : Int) (by kernel_rfl) (by omega)) ?_
   refine K.a (K.QR.nice (v := .int .u64 (IntKind.u64.wrap ((i + j : Nat) : Int))) (by kernel_rfl) (congrArg (Value.int .u64) (IntWalk.u64_in _ (by omega)))) ?_
   refine K.a (K.QR.turn (v := .int .u64 ((((i + j : Nat) : Int) : Int) / 2 ^ (1))) (K.QR.shr (m := 1) rfl rfl rfl (by show _ ≤ 64; omega) (by omega)) (congrArg (Value.int .u64) (show ((((i + j : Nat) : Int) : Int) / 2 ^ (1) : Int) = ((((i + j) / 2 : Nat) : Int) : Int) from by omega))) ?_
   refine K.a (K.QR.nice (v := K.iv (IntKind.i64.wrap (((i + j) / 2 : Nat) : Int))) (by kernel_rfl) (congrArg (Value.int .i64) (IntWalk.i64_in _ (by omega)))) ?_
   refine K.q [K.iv (((i + j) / 2 : Nat) : Int)] (K.z (K.t (K.s ?_)))
   -- region 5 sort.go:135
   obtain ⟨b_12, of_13, rfl, _⟩ := hx.at_ (by omega)
   refine K.g (K.q [.slice (some ⟨b_12, of_13, none⟩) xs.length cap, K.iv (((i + j) / 2 : Nat) : Int)] ?_)
   refine K.a (K.QR.ix (of_13 + ((i + j) / 2) * 1) 1 rfl rfl rfl Tryz.underlying44 (by kernel_rfl) (by omega) (by first | (simp; done) | omega | (simp; omega))) ?_
   refine K.d (K.iv (xs.getD ((i + j) / 2) 0)) (c_5.cell (hx.ld ((i + j) / 2) (by omega) 0 _ rfl) id) ?_
   refine K.q [K.iv k] ?_
   refine K.l (K.OW.call rfl [K.iv (xs.getD ((i + j) / 2) 0), K.iv k] rfl rfl (by kernel_rfl) (lessI_ok (xs.getD ((i + j) / 2) 0) k _) ?_)
   rintro v_17 w_15 ⟨hv_16, c_14⟩
   have c_18 := c_5.no c_14
   have z_19 := c_18.size
   have zz_20 := c_14.size
   rcases Bool.eq_false_or_eq_true (decide ((xs.getD ((i + j) / 2) 0 : Int) < (k : Int))) with hb_21 | hb_21
   ·
    rw [hb_21] at hv_16; subst hv_16
    have hp_22 := of_decide_eq_true hb_21
    refine K.z (K.t (K.h ?_))
    -- region 6 sort.go:136
    refine K.g (K.q [K.iv (((i + j) / 2 : Nat) : Int)] ?_)
    refine K.a (K.QR.n64 (((((i + j) / 2 : Nat) : Int) : Int) + (1 : Int)) (((i + j) / 2 + 1 : Nat) : Int) (by kernel_rfl) (by omega)) ?_
    refine K.q [K.iv (((i + j) / 2 + 1 : Nat) : Int)] (K.z ?_)
    refine K.blk_normal ?_
    refine K.t ?_
    refine ⟨_, ?_, (i + j) / 2 + 1, j, rfl, ⟨by rfl, by rfl, by rfl, by rfl, by rfl, by rfl, by rfl, by rfl, trivial⟩, (by omega), (by omega), (by exact bs_loI hr (by omega) (by assumption)), (by assumption), c_18⟩
    omega
   ·
    rw [hb_21] at hv_16; subst hv_16
    have hp_23 := of_decide_eq_false hb_21
    refine K.z (K.t (K.f ?_))
    -- region 7 sort.go:138
    refine K.g (K.q [K.iv (((i + j) / 2 : Nat) : Int), K.iv (((i + j) / 2 : Nat) : Int)] (K.z ?_))
    refine K.blk_normal ?_
    refine K.t ?_
    refine ⟨_, ?_, i, (i + j) / 2, rfl, ⟨by rfl, by rfl, by rfl, by rfl, by rfl, by rfl, by rfl, by rfl, trivial⟩, (by omega), (by omega), (by assumption), (by exact bs_hiI hr (by omega) (by assumption)), c_18⟩
    omega
  ·
   refine K.x ((((i : Nat) : Int) : Int) < (((j : Nat) : Int) : Int)) h_11 ?_
   refine K.z (K.t (K.f ?_))
   refine K.KW.exit ?_
   refine K.thn_exit ?_
   refine K.thn_exit ?_
   refine K.blk_hit ?_
   refine K.t (K.s ?_)
   -- region 8 sort.go:142
   by_cases h_24 : (((i : Nat) : Int) : Int) < (((xs.length : Nat) : Int) : Int)
   ·
    -- region 8 sort.go:142
    obtain ⟨b_25, of_26, rfl, _⟩ := hx.at_ (by omega)
    refine K.g (K.q [K.iv ((i : Nat) : Int), K.iv ((i : Nat) : Int), K.iv ((xs.length : Nat) : Int)] ?_)
    refine K.y ((((i : Nat) : Int) : Int) < (((xs.length : Nat) : Int) : Int)) h_24 ?_
    refine K.q [.bool true, .slice (some ⟨b_25, of_26, none⟩) xs.length cap, K.iv ((i : Nat) : Int)] ?_
    refine K.a (K.QR.ix (of_26 + i * 1) 1 rfl rfl rfl Tryz.underlying44 (by kernel_rfl) (by omega) (by first | (simp; done) | omega | (simp; omega))) ?_
    refine K.d (K.iv (xs.getD i 0)) (c_5.cell (hx.ld i (by omega) 0 _ rfl) id) ?_
    refine K.q [K.iv k] ?_
    by_cases h_27 : (xs.getD i 0 : Int) = (k : Int)
    ·
     refine K.ye (xs.getD i 0 : Int) (k : Int) h_27 ?_
     refine K.q [.bool true] (K.n_ (K.n_ (K.n_ (K.n_ (K.n_ (K.n_ (K.n_ (K.n_ (K.n_ (K.q [.bool true, .bool true, K.iv ((i : Nat) : Int), .bool true] (K.z ?_)))))))))))
     refine K.t (K.r ?_)
     refine ⟨.inr rfl, rfl, (.tuple #[K.iv ((i : Nat) : Int), .bool true]), K.res2 rfl rfl rfl, ?_⟩
     have hp := bs_endU (xs := xs) (k := k) (i := i) (j := j) (by omega) (by omega) (by assumption) (by assumption)
     rw [hp]
     exact ⟨by first | rw [← hasI_t hp (by omega) (by assumption)] | rw [← hasI_f hp (by assumption)] | rw [← hasU_n hp (by omega)], c_5⟩
    ·
     refine K.xe (xs.getD i 0 : Int) (k : Int) h_27 ?_
     refine K.q [.bool false, .slice (some ⟨b_25, of_26, none⟩) xs.length cap, K.iv ((i : Nat) : Int)] ?_
     refine K.a (K.QR.ix (of_26 + i * 1) 1 rfl rfl rfl Tryz.underlying44 (by kernel_rfl) (by omega) (by first | (simp; done) | omega | (simp; omega))) ?_
     refine K.d (K.iv (xs.getD i 0)) (c_5.cell (hx.ld i (by omega) 0 _ rfl) id) ?_
     refine K.l (K.OW.call rfl [K.iv (xs.getD i 0)] rfl rfl (by kernel_rfl) (nanSI_ok (xs.getD i 0) _) ?_)
     rintro _ w_29 ⟨rfl, c_28⟩
     have c_30 := c_5.no c_28
     have z_31 := c_30.size
     have zz_32 := c_28.size
     refine K.q [.bool false] (K.n_ (K.n_ (K.q [.bool false, .bool false, .bool false, K.iv ((i : Nat) : Int), .bool false] (K.z (K.t (K.r ?_))))))
     refine ⟨.inr rfl, rfl, (.tuple #[K.iv ((i : Nat) : Int), .bool false]), K.res2 rfl rfl rfl, ?_⟩
     have hp := bs_endU (xs := xs) (k := k) (i := i) (j := j) (by omega) (by omega) (by assumption) (by assumption)
     rw [hp]
     exact ⟨by first | rw [← hasI_t hp (by omega) (by assumption)] | rw [← hasI_f hp (by assumption)] | rw [← hasU_n hp (by omega)], c_30⟩
   ·
    -- region 8 sort.go:142
    refine K.g (K.q [K.iv ((i : Nat) : Int), K.iv ((i : Nat) : Int), K.iv ((xs.length : Nat) : Int)] ?_)
    refine K.x ((((i : Nat) : Int) : Int) < (((xs.length : Nat) : Int) : Int)) h_24 ?_
    refine K.q [.bool false] (K.n_ (K.n_ (K.n_ (K.n_ (K.n_ (K.n_ (K.n_ (K.n_ (K.n_ (K.n_ (K.n_ (K.n_ (K.n_ (K.n_ ?_))))))))))))))
    refine K.n_ (K.n_ (K.n_ (K.q [.bool false, K.iv ((i : Nat) : Int), .bool false] (K.z (K.t (K.r ?_))))))
    refine ⟨.inr rfl, rfl, (.tuple #[K.iv ((i : Nat) : Int), .bool false]), K.res2 rfl rfl rfl, ?_⟩
    have hp := bs_endU (xs := xs) (k := k) (i := i) (j := j) (by omega) (by omega) (by assumption) (by assumption)
    rw [hp]
    exact ⟨by first | rw [← hasI_t hp (by omega) (by assumption)] | rw [← hasI_f hp (by assumption)] | rw [← hasU_n hp (by omega)], c_5⟩
set_option maxHeartbeats 1000000 in
set_option maxRecDepth 100000 in
theorem cloneL_ok (a : Option Addr) (cap : Nat) (xs : List (List Int)) (w0 : World) (hm : xs.length ≤ 1000000000) (hx : RLn w0 a xs) :
  K.KC Tryz.prog 163 #[.slice a xs.length cap] w0 (fun v w' => ∃ r c, v = .slice r xs.length c ∧ K.Chg K.No w0 w' ∧ K.Own w' w0.heap.size 206 8 r xs.length c ((xs).flatMap cLine)) := by
 refine K.KC.mk (n := 8) Tryz.func163 rfl rfl [.slice a xs.length cap] rfl rfl ?_
 refine K.s ?_
 -- region 0 slices.go:355
 refine K.g (K.q [.slice none 0 0] (K.z (K.t (K.s (K.s ?_)))))
 -- region 1 slices.go:357
 refine K.g (K.q [.slice a xs.length cap] ?_)
 rcases Option.eq_none_or_eq_some a with rfl | ⟨p, hp⟩
 ·
  refine K.a (K.QR.eqNil rfl rfl rfl Tryz.underlying177) ?_
  refine K.z (K.t (K.h (K.s ?_)))
  -- region 2 slices.go:358
  refine K.g (K.q [.slice none 0 0] (K.z (K.t (K.r (K.u ?_)))))
  refine ⟨.inr rfl, rfl, (.slice none 0 0), K.res1 rfl rfl, ?_⟩
  obtain ⟨rfl⟩ : xs = [] := by rcases hx with h | ⟨_, _, h, _⟩ <;> first | exact List.eq_nil_of_length_eq_zero h | cases h
  exact ⟨_, _, rfl, (K.Chg.refl _), K.Own.nil _ _ _ _⟩
 ·
  subst hp
  refine K.a (K.QR.eqNil rfl rfl rfl Tryz.underlying177) ?_
  refine K.z (K.t (K.f (K.k (K.t (K.s ?_)))))
  -- region 3 slices.go:362
  refine K.g ?_
  refine K.l (K.OW.bs rfl [] [] rfl rfl (fun w => K.bs_run0 (P := Tryz.prog) w 177 206 0 _ _ Tryz.underlying177 (by kernel_rfl)) ?_)
  intro w_1 r_2 hr_3 e_4 hs_5 b_6
  have c_7 := e_4
  have z_8 := c_7.size
  have zz_9 := e_4.size
  refine K.q [.slice (some p) xs.length cap] ?_
  refine K.l (K.OW.appR (P := Tryz.prog) (c := cLine) (L := []) (L2 := xs) (z := .agg #[.int .u64 0, .int .u64 0, .int .u64 0, .int .u64 0, .int .u64 0, .int .u64 0, .int .u64 0, .int .u64 0]) (size := 8) (bytes := 64) rfl ([] : List Int) rfl rfl (K.Own.of_blkL (size := 8) (base := w0.heap.size) (n := 0) (c := cLine) (L := []) b_6 (by omega) rfl (by unfold maxLen; omega) (fun _ => rfl) rfl) rfl Tryz.underlying177 (by kernel_rfl) rfl (by decide) rfl (hx.no c_7) (fun _ => rfl) (fun _ => K.one_cells rfl) (by unfold maxLen; omega) (by omega) (by omega) ?_)
  intro a_10 cap_11 w_12 e_13 o_14 hn_15
  have c_16 := c_7.trans e_13 (fun i hi hy => absurd ((K.Own.of_blkL (size := 8) (base := w0.heap.size) (n := 0) (c := cLine) (L := []) b_6 (by omega) rfl (by unfold maxLen; omega) (fun _ => rfl) rfl).base_le i hy) (by omega))
  have z_17 := c_16.size
  have zz_18 := e_13.size
  have ln_19 : (([] ++ xs)).length = 0 + xs.length := by simp
  refine K.q [.slice a_10 (0 + xs.length) cap_11] (K.z (K.t (K.r ?_)))
  refine ⟨.inr rfl, rfl, (.slice a_10 (0 + xs.length) cap_11), K.res1 rfl rfl, ?_⟩
  have h0 : 0 + xs.length = xs.length := Nat.zero_add _
  exact ⟨a_10, cap_11, by rw [h0], c_16, by rw [h0] at *; simpa using o_14⟩
set_option maxHeartbeats 1000000 in
set_option maxRecDepth 100000 in
theorem insNI_ok (vb cv base base2 : Nat) (x : Int) (w0 : World) (hbase : base ≤ w0.heap.size) (hv : K.Own w0 base2 3 1 (some ⟨vb, 0, none⟩) 1 cv ([x].flatMap cI64)) :
  K.KC Tryz.prog 190 #[.slice none 0 0, K.iv 0, .slice (some ⟨vb, 0, none⟩) 1 cv] w0 (fun v w' => ∃ a' cap', v = .slice a' (0 + 1) cap' ∧ K.Chg K.No w0 w' ∧ K.Own w' base 3 1 a' (0 + 1) cap' ((([x] : List Int)).flatMap cI64) ∧ (∀ j, K.Ow a' j →  w0.heap.size ≤ j)) := by
 refine K.KC.mk (n := 95) Tryz.func190 rfl rfl [.slice none 0 0, K.iv 0, .slice (some ⟨vb, 0, none⟩) 1 cv] rfl rfl ?_
 refine K.s ?_
 -- region 0 slices.go:136
 refine K.g (K.q [.slice none 0 0] (K.z (K.t (K.s ?_))))
 -- region 1 slices.go:137
 refine K.g (K.q [.slice none 0 0, K.iv 0] ?_)
 refine K.a (K.QR.slLo (size := 1) (m := 0) (k := 0) 0 rfl rfl rfl Tryz.underlying44 (by kernel_rfl) (Nat.le_refl _) rfl) ?_
 refine K.z (K.t (K.s ?_))
 -- region 2 slices.go:139
 refine K.g (K.q [.slice (some ⟨vb, 0, none⟩) 1 cv] ?_)
 refine K.a (K.QR.len (P := Tryz.prog) rfl rfl Tryz.underlying44) ?_
 refine K.q [K.iv 1] (K.z (K.t (K.s (K.s ?_))))
 -- region 3 slices.go:140
 refine K.g (K.q [K.iv 1, .bool false] (K.z (K.t (K.f (K.k (K.t (K.s ?_)))))))
 -- region 5 slices.go:143
 refine K.g (K.q [.slice none 0 0] ?_)
 refine K.a (K.QR.len (P := Tryz.prog) rfl rfl Tryz.underlying44) ?_
 refine K.q [K.iv 0] (K.z (K.t (K.s (K.s ?_))))
 -- region 6 slices.go:144
 refine K.g (K.q [K.iv 0, K.iv 0, .bool true] (K.z (K.t (K.h (K.s ?_)))))
 -- region 7 slices.go:145
 refine K.g (K.q [.slice none 0 0, .slice (some ⟨vb, 0, none⟩) 1 cv] ?_)
 refine K.l (K.OW.app2 (P := Tryz.prog) (base := base) (xs := []) (z := K.iv 0) (size := 1) (bytes := 8) rfl ([x].flatMap cI64) rfl rfl (K.Own.nil _ _ _ _) rfl Tryz.underlying44 (by kernel_rfl) rfl (by decide) (by rfl) (fun j u hj => by have h := (hv).cells j u hj; rw [K.Addr.add_off] at h; exact h) (by intro v hv; obtain ⟨y, _, hy⟩ := List.mem_flatMap.1 hv; exact ins1I y v hy) (by unfold maxLen; omega) (by omega) (by omega) ?_)
 intro a_1 cap_2 w_3 e_4 o_5 hk_6
 have e_4n := K.Chg.ow_none e_4
 have c_7 := e_4n
 have z_8 := c_7.size
 have zz_9 := e_4n.size
 refine K.q [.slice a_1 (0 + 1) cap_2] (K.z (K.t (K.r (K.u ?_))))
 refine ⟨.inr rfl, rfl, (.slice a_1 (0 + 1) cap_2), K.res1 rfl rfl, ?_⟩
 exact ⟨_, _, rfl, c_7, o_5, fun j hj => (hk_6 j hj).elim (fun h => by obtain ⟨_, h, _⟩ := h; cases h) (fun h => by omega)⟩
set_option maxHeartbeats 1000000 in
set_option maxRecDepth 100000 in
theorem insSI_ok (g i cap vb cv base base2 : Nat) (xs : List Int) (x : Int) (w0 : World) (hm : xs.length ≤ 1000000000) (hi : i ≤ xs.length) (hne : ¬ vb = g) (hbase : base ≤ w0.heap.size) (how : K.Own w0 base 3 1 (some ⟨g, 0, none⟩) xs.length cap (xs.flatMap cI64)) (hv : K.Own w0 base2 3 1 (some ⟨vb, 0, none⟩) 1 cv ([x].flatMap cI64)) :
  K.KC Tryz.prog 190 #[.slice (some ⟨g, 0, none⟩) xs.length cap, K.iv ((i : Nat) : Int), .slice (some ⟨vb, 0, none⟩) 1 cv] w0 (fun v w' => ∃ a' cap', v = .slice a' (xs.length + 1) cap' ∧ K.Chg (K.Ow (some ⟨g, 0, none⟩)) w0 w' ∧ K.Own w' base 3 1 a' (xs.length + 1) cap' (((xs.take i ++ x :: xs.drop i : List Int)).flatMap cI64) ∧ (∀ j, K.Ow a' j → j = g ∨ w0.heap.size ≤ j)) := by
 have hcap := how.le_cap
 have hgl : g < w0.heap.size := how.lt g ⟨_, rfl, rfl⟩
 have hvl : vb < w0.heap.size := hv.lt vb ⟨_, rfl, rfl⟩
 have hti := how.take rfl (fun _ => rfl) i hi (fun h => by cases h)
 refine K.KC.mk (n := 95) Tryz.func190 rfl rfl [.slice (some ⟨g, 0, none⟩) xs.length cap, K.iv ((i : Nat) : Int), .slice (some ⟨vb, 0, none⟩) 1 cv] rfl rfl ?_
 have c_0 : K.Chg (K.Ow (some ⟨g, 0, none⟩)) w0 w0 := (K.Chg.refl w0).mono fun _ _ h => h.elim
 refine K.s ?_
 -- region 0 slices.go:136
 refine K.g (K.q [.slice none 0 0] (K.z (K.t (K.s ?_))))
 -- region 1 slices.go:137
 refine K.g (K.q [.slice (some ⟨g, 0, none⟩) xs.length cap, K.iv ((i : Nat) : Int)] ?_)
 refine K.a (K.QR.slLo (size := 1) (m := xs.length) (k := xs.length - i) i rfl rfl rfl Tryz.underlying44 (by kernel_rfl) (by omega) rfl) ?_
 refine K.z (K.t (K.s ?_))
 -- region 2 slices.go:139
 refine K.g (K.q [.slice (some ⟨vb, 0, none⟩) 1 cv] ?_)
 refine K.a (K.QR.len (P := Tryz.prog) rfl rfl Tryz.underlying44) ?_
 refine K.q [K.iv 1] (K.z (K.t (K.s (K.s ?_))))
 -- region 3 slices.go:140
 refine K.g (K.q [K.iv 1, .bool false] (K.z (K.t (K.f (K.k (K.t (K.s ?_)))))))
 -- region 5 slices.go:143
 refine K.g (K.q [.slice (some ⟨g, 0, none⟩) xs.length cap] ?_)
 refine K.a (K.QR.len (P := Tryz.prog) rfl rfl Tryz.underlying44) ?_
 refine K.q [K.iv ((xs.length : Nat) : Int)] (K.z (K.t (K.s (K.s ?_))))
 -- region 6 slices.go:144
 refine K.g (K.q [K.iv ((i : Nat) : Int), K.iv ((xs.length : Nat) : Int)] ?_)
 by_cases h_1 : (((i : Nat) : Int) : Int) = (((xs.length : Nat) : Int) : Int)
 ·
  refine K.ye (((i : Nat) : Int) : Int) (((xs.length : Nat) : Int) : Int) h_1 ?_
  refine K.z (K.t (K.h (K.s ?_)))
  -- region 7 slices.go:145
  refine K.g (K.q [.slice (some ⟨g, 0, none⟩) xs.length cap, .slice (some ⟨vb, 0, none⟩) 1 cv] ?_)
  refine K.l (K.OW.app2 (P := Tryz.prog) (base := base) (xs := xs.flatMap cI64) (z := K.iv 0) (size := 1) (bytes := 8) rfl ([x].flatMap cI64) rfl rfl how rfl Tryz.underlying44 (by kernel_rfl) rfl (by decide) (by rfl) (fun j u hj => by have h := hv.cells j u hj; rw [K.Addr.add_off] at h; exact h) (by intro v hv; obtain ⟨y, _, hy⟩ := List.mem_flatMap.1 hv; exact ins1I y v hy) (by unfold maxLen; omega) (by omega) (by omega) ?_)
  intro a_2 cap_3 w_4 e_5 o_6 hk_7
  have c_8 := c_0.trans e_5 (fun i hi hy => hy)
  refine K.q [.slice a_2 (xs.length + 1) cap_3] (K.z (K.t (K.r (K.u ?_))))
  refine ⟨.inr rfl, rfl, (.slice a_2 (xs.length + 1) cap_3), K.res1 rfl rfl, ?_⟩
  obtain rfl : i = xs.length := by omega
  exact ⟨_, _, rfl, c_8, by rw [List.take_length, List.drop_length, List.flatMap_append]; exact o_6, fun j hj => (hk_7 j hj).imp (fun h => by obtain ⟨_, h, rfl⟩ := h; cases h; rfl) id⟩
 ·
  refine K.xe (((i : Nat) : Int) : Int) (((xs.length : Nat) : Int) : Int) h_1 ?_
  refine K.z (K.t (K.f (K.k (K.t (K.s (K.s ?_))))))
  -- region 8 slices.go:147
  refine K.g (K.q [K.iv ((xs.length : Nat) : Int), K.iv 1] ?_)
  refine K.a (K.QR.n64 ((((xs.length : Nat) : Int) : Int) + (1 : Int)) ((xs.length + 1 : Nat) : Int) (by kernel_rfl) (by omega)) ?_
  refine K.q [.slice (some ⟨g, 0, none⟩) xs.length cap] ?_
  refine K.a (K.QR.cap (P := Tryz.prog) rfl rfl Tryz.underlying44) ?_
  by_cases h_9 : (((xs.length + 1 : Nat) : Int) : Int) > (((cap : Nat) : Int) : Int)
  ·
   refine K.y ((((xs.length + 1 : Nat) : Int) : Int) > (((cap : Nat) : Int) : Int)) h_9 ?_
   refine K.z (K.t (K.h (K.s ?_)))
   -- region 9 slices.go:152
   refine K.g (K.q [.slice (some ⟨g, 0, none⟩) xs.length cap, K.iv ((i : Nat) : Int)] ?_)
   refine K.a (K.QR.slHi (size := 1) i rfl rfl rfl Tryz.underlying44 (by kernel_rfl) (by omega)) ?_
   refine K.q [K.iv ((xs.length : Nat) : Int), K.iv 1] ?_
   refine K.a (K.QR.n64 ((((xs.length : Nat) : Int) : Int) + (1 : Int)) ((xs.length + 1 : Nat) : Int) (by kernel_rfl) (by omega)) ?_
   refine K.q [K.iv ((i : Nat) : Int)] ?_
   refine K.a (K.QR.turn (v := K.iv ((((xs.length + 1 : Nat) : Int) : Int) - (((i : Nat) : Int) : Int))) (K.QR.n64 ((((xs.length + 1 : Nat) : Int) : Int) - (((i : Nat) : Int) : Int)) ((((xs.length + 1 : Nat) : Int) : Int) - (((i : Nat) : Int) : Int)) (by kernel_rfl) (by omega)) (congrArg (Value.int .i64) (show ((((xs.length + 1 : Nat) : Int) : Int) - (((i : Nat) : Int) : Int) : Int) = (((xs.length + 1 - i : Nat) : Int) : Int) from by omega))) ?_
   refine K.l (K.OW.growZ (P := Tryz.prog) (base := base) (olds := (xs.take i).flatMap cI64) (k := xs.length + 1 - i) (z := K.iv 0) (size := 1) (bytes := 8) rfl rfl rfl rfl Tryz.underlying44 Tryz.underlying3 (by kernel_rfl) rfl (by decide) hti (by omega) (by omega) (by unfold maxLen; omega) (by omega) (by omega) ?_)
   intro r_10 cap_11 w_12 zs_13 hr_14 e_15 hz_16 o_17
   have c_18 := c_0.no e_15
   have hc_19 := o_17.le_cap
   have f_20 := how.no e_15
   have f_21 := hv.no e_15
   refine K.q [.slice (some ⟨r_10, 0, none⟩) (i + (xs.length + 1 - i)) cap_11] (K.z (K.t (K.s ?_)))
   -- region 10 slices.go:153
   refine K.g (K.q [.slice (some ⟨r_10, 0, none⟩) (i + (xs.length + 1 - i)) cap_11, K.iv ((i : Nat) : Int)] ?_)
   refine K.a (K.QR.slLo (size := 1) (m := (i + (xs.length + 1 - i))) (k := (i + (xs.length + 1 - i)) - i) i rfl rfl rfl Tryz.underlying44 (by kernel_rfl) (by omega) rfl) ?_
   refine K.q [.slice (some ⟨vb, 0, none⟩) 1 cv] ?_
   refine K.l (K.OW.cpV (P := Tryz.prog) (g := r_10) (N := (i + (xs.length + 1 - i))) (ys := ((xs.take i).flatMap cI64 ++ zs_13)) (cs := ([x].flatMap cI64)) (size := 1) i 1 rfl rfl rfl rfl (by omega) (shift_ltG (by omega)) Tryz.underlying44 (by kernel_rfl) (by show _ = (min _ _ : Nat); omega) o_17 (by omega) (by rw [K.fl_len (size := 1) (fun _ => rfl)]; rfl) ⟨_, rfl, f_21.cells⟩ (by intro v hv; obtain ⟨y, _, hy⟩ := List.mem_flatMap.1 hv; exact ins1I y v hy) ?_)
   intro w_22 e_23 hs_24 o_25
   have c_26 := c_18.own e_23 (by omega)
   have f_27 := f_21.chg e_23 (fun k hk hy => by obtain ⟨_, h1, rfl⟩ := hk; cases h1; have h2 : vb = r_10 := hy; omega)
   have f_28 := f_20.chg e_23 (fun k hk hy => by obtain ⟨_, h1, rfl⟩ := hk; cases h1; have h2 : g = r_10 := hy; omega)
   refine K.z (K.t (K.s ?_))
   -- region 11 slices.go:154
   refine K.KW.drawn (fun w => K.Chg (K.Ow (some ⟨g, 0, none⟩)) w0 w) (by kernel_rfl) ?_
   intro w_29 e_30 hs_31
   have c_33 := c_26.no e_30
   have z_34 := c_33.size
   have zz_35 := e_30.size
   have f_36 := f_27.no e_30
   have f_37 := f_28.no e_30
   have f_38 := o_25.no e_30
   have hS_32 : (fun w => K.Chg (K.Ow (some ⟨g, 0, none⟩)) w0 w) w_29 := c_33
   refine K.p 0 rfl (.slice (some ⟨r_10, 0, none⟩) (i + (xs.length + 1 - i)) cap_11) hS_32 ?_
   refine K.p 1 rfl (K.iv ((i : Nat) : Int)) hS_32 ?_
   refine K.p 2 rfl (K.iv 1) hS_32 ?_
   refine K.m 3 rfl (fun w hS => K.QR.n64 ((((i : Nat) : Int) : Int) + (1 : Int)) ((i + 1 : Nat) : Int) (by kernel_rfl) (by omega)) hS_32 ?_
   refine K.m 4 rfl (fun w hS => K.QR.slLo (size := 1) (m := (i + (xs.length + 1 - i))) (k := (i + (xs.length + 1 - i)) - (i + 1)) (i + 1) rfl rfl rfl Tryz.underlying44 (by kernel_rfl) (by omega) rfl) hS_32 ?_
   refine K.p 5 rfl (.slice (some ⟨g, 0, none⟩) xs.length cap) hS_32 ?_
   refine K.b 6 rfl (K.iv ((i : Nat) : Int)) hS_32 ?_
   refine K.c 7 rfl (K.QR.slLo (size := 1) (m := xs.length) (k := xs.length - i) i rfl rfl rfl Tryz.underlying44 (by kernel_rfl) (by omega) rfl) hS_32 ?_
   refine K.DW.l 8 rfl (by kernel_rfl) rfl (K.OW.cpV (P := Tryz.prog) (g := r_10) (N := (i + (xs.length + 1 - i))) (ys := (((xs.take i).flatMap cI64 ++ zs_13).take (i * 1) ++ ([x].flatMap cI64 ++ ((xs.take i).flatMap cI64 ++ zs_13).drop ((i + 1) * 1)))) (cs := ((xs.flatMap cI64).drop (i * 1))) (size := 1) (i + 1) (xs.length - i) rfl rfl rfl rfl (by omega) (shift_ltG (by omega)) Tryz.underlying44 (by kernel_rfl) (by show _ = (min _ _ : Nat); omega) f_38 (by omega) (by rw [List.length_drop, K.fl_len (size := 1) (fun _ => rfl), Nat.sub_mul]) ⟨_, shift_ltG (by omega), f_37.cellsAt⟩ (by intro v hv; obtain ⟨y, _, hy⟩ := List.mem_flatMap.1 (List.mem_of_mem_drop hv); exact ins1I y v hy) ?_)
   intro w_39 e_40 hs_41 o_42
   have c_43 := c_33.own e_40 (by omega)
   have f_44 := f_36.chg e_40 (fun k hk hy => by obtain ⟨_, h1, rfl⟩ := hk; cases h1; have h2 : vb = r_10 := hy; omega)
   have f_45 := f_37.chg e_40 (fun k hk hy => by obtain ⟨_, h1, rfl⟩ := hk; cases h1; have h2 : g = r_10 := hy; omega)
   have hS_46 : (fun w => K.Chg (K.Ow (some ⟨g, 0, none⟩)) w0 w) w_39 := c_43
   refine ⟨.inl hS_46, ?_⟩
   refine K.DW.done (by kernel_rfl) ?_
   refine K.t (K.s ?_)
   -- region 12 slices.go:155
   refine K.g (K.q [.slice (some ⟨r_10, 0, none⟩) (i + (xs.length + 1 - i)) cap_11, .slice (some ⟨r_10, 0, none⟩) (i + (xs.length + 1 - i)) cap_11] (K.z (K.t (K.r (K.u ?_)))))
   refine ⟨.inr rfl, rfl, (.slice (some ⟨r_10, 0, none⟩) (i + (xs.length + 1 - i)) cap_11), K.res1 rfl rfl, ?_⟩
   have hN : i + (xs.length + 1 - i) = xs.length + 1 := by omega
   exact ⟨_, _, by rw [hN], c_43, by rw [← ins_cellsB (size := 1) (fun _ => rfl) xs x hi hz_16 rfl, ← hN]; exact o_42, fun j hj => .inr (by obtain ⟨_, h, rfl⟩ := hj; cases h; exact Nat.le_trans (Nat.le_refl _) (by omega))⟩
  ·
   refine K.x ((((xs.length + 1 : Nat) : Int) : Int) > (((cap : Nat) : Int) : Int)) h_9 ?_
   refine K.z (K.t (K.f (K.k (K.t (K.s ?_)))))
   -- region 13 slices.go:157
   refine K.g (K.q [.slice (some ⟨g, 0, none⟩) xs.length cap, K.iv ((xs.length : Nat) : Int), K.iv 1] ?_)
   refine K.a (K.QR.n64 ((((xs.length : Nat) : Int) : Int) + (1 : Int)) ((xs.length + 1 : Nat) : Int) (by kernel_rfl) (by omega)) ?_
   refine K.a (K.QR.slHi (size := 1) (xs.length + 1) rfl rfl rfl Tryz.underlying44 (by kernel_rfl) (by omega)) ?_
   refine K.q [.slice (some ⟨g, 0, none⟩) (xs.length + 1) cap] (K.z (K.t (K.s (K.s ?_))))
   -- region 14 slices.go:173
   refine K.g (K.q [.slice (some ⟨vb, 0, none⟩) 1 cv, .slice (some ⟨g, 0, none⟩) (xs.length + 1) cap, K.iv ((i : Nat) : Int), K.iv 1] ?_)
   refine K.a (K.QR.n64 ((((i : Nat) : Int) : Int) + (1 : Int)) ((i + 1 : Nat) : Int) (by kernel_rfl) (by omega)) ?_
   refine K.a (K.QR.slLo (size := 1) (m := (xs.length + 1)) (k := (xs.length + 1) - (i + 1)) (i + 1) rfl rfl rfl Tryz.underlying44 (by kernel_rfl) (by omega) rfl) ?_
   refine K.a (QR.overlaps rfl rfl rfl (shift_ltG (by omega)) (ovlI hne how hv (by omega) (by omega))) ?_
   refine K.q [.bool true] (K.z (K.t (K.h (K.s ?_))))
   -- region 15 slices.go:178
   obtain ⟨us, hus, hwd⟩ := how.wide (xs.length + 1) (by omega) (by omega)
   have hus1 : us.length = 1 := by rw [hus]; omega
   refine K.KW.drawn (fun w => K.Chg (K.Ow (some ⟨g, 0, none⟩)) w0 w) (by kernel_rfl) ?_
   intro w_47 e_48 hs_49
   have c_51 := c_0.no e_48
   have z_52 := c_51.size
   have zz_53 := e_48.size
   have f_54 := how.no e_48
   have f_55 := hv.no e_48
   have f_56 := hwd.no e_48
   have hS_50 : (fun w => K.Chg (K.Ow (some ⟨g, 0, none⟩)) w0 w) w_47 := c_51
   refine K.p 0 rfl (.slice (some ⟨g, 0, none⟩) (xs.length + 1) cap) hS_50 ?_
   refine K.p 1 rfl (K.iv ((i : Nat) : Int)) hS_50 ?_
   refine K.p 2 rfl (K.iv 1) hS_50 ?_
   refine K.m 3 rfl (fun w hS => K.QR.n64 ((((i : Nat) : Int) : Int) + (1 : Int)) ((i + 1 : Nat) : Int) (by kernel_rfl) (by omega)) hS_50 ?_
   refine K.m 4 rfl (fun w hS => K.QR.slLo (size := 1) (m := (xs.length + 1)) (k := (xs.length + 1) - (i + 1)) (i + 1) rfl rfl rfl Tryz.underlying44 (by kernel_rfl) (by omega) rfl) hS_50 ?_
   refine K.p 5 rfl (.slice (some ⟨g, 0, none⟩) (xs.length + 1) cap) hS_50 ?_
   refine K.b 6 rfl (K.iv ((i : Nat) : Int)) hS_50 ?_
   refine K.c 7 rfl (K.QR.slLo (size := 1) (m := (xs.length + 1)) (k := (xs.length + 1) - i) i rfl rfl rfl Tryz.underlying44 (by kernel_rfl) (by omega) rfl) hS_50 ?_
   refine K.DW.l 8 rfl (by kernel_rfl) rfl (K.OW.cpV (P := Tryz.prog) (g := g) (N := (xs.length + 1)) (ys := ((xs.flatMap cI64) ++ us)) (cs := ((xs.flatMap cI64).drop (i * 1))) (size := 1) (i + 1) (xs.length - i) rfl rfl rfl rfl (by omega) (shift_ltG (by omega)) Tryz.underlying44 (by kernel_rfl) (by show _ = (min _ _ : Nat); omega) f_56 (by omega) (by rw [List.length_drop, K.fl_len (size := 1) (fun _ => rfl), Nat.sub_mul]) ⟨_, shift_ltG (by omega), f_54.cellsAt⟩ (by intro v hv; obtain ⟨y, _, hy⟩ := List.mem_flatMap.1 (List.mem_of_mem_drop hv); exact ins1I y v hy) ?_)
   intro w_57 e_58 hs_59 o_60
   have c_61 := c_51.trans e_58 (fun i hi hy => ⟨_, rfl, hy⟩)
   have f_62 := f_55.chg e_58 (fun k hk hy => by obtain ⟨_, h1, rfl⟩ := hk; cases h1; have h2 : vb = g := hy; exact hne h2)
   have hS_63 : (fun w => K.Chg (K.Ow (some ⟨g, 0, none⟩)) w0 w) w_57 := c_61
   refine ⟨.inl hS_63, ?_⟩
   refine K.DW.done (by kernel_rfl) ?_
   refine K.t (K.s ?_)
   -- region 16 slices.go:186
   refine K.g (K.q [.slice (some ⟨g, 0, none⟩) (xs.length + 1) cap, K.iv ((i : Nat) : Int)] ?_)
   refine K.a (K.QR.slLo (size := 1) (m := (xs.length + 1)) (k := (xs.length + 1) - i) i rfl rfl rfl Tryz.underlying44 (by kernel_rfl) (by omega) rfl) ?_
   refine K.q [.slice (some ⟨vb, 0, none⟩) 1 cv] ?_
   refine K.l (K.OW.cpV (P := Tryz.prog) (g := g) (N := (xs.length + 1)) (ys := (((xs.flatMap cI64) ++ us).take ((i + 1) * 1) ++ (((xs.flatMap cI64).drop (i * 1)) ++ ((xs.flatMap cI64) ++ us).drop ((i + 1 + (xs.length - i)) * 1)))) (cs := ([x].flatMap cI64)) (size := 1) i 1 rfl rfl rfl rfl (by omega) (shift_ltG (by omega)) Tryz.underlying44 (by kernel_rfl) (by show _ = (min _ _ : Nat); omega) o_60 (by omega) (by rw [K.fl_len (size := 1) (fun _ => rfl)]; rfl) ⟨_, rfl, f_62.cells⟩ (by intro v hv; obtain ⟨y, _, hy⟩ := List.mem_flatMap.1 hv; exact ins1I y v hy) ?_)
   intro w_64 e_65 hs_66 o_67
   have c_68 := c_61.trans e_65 (fun i hi hy => ⟨_, rfl, hy⟩)
   have f_69 := f_62.chg e_65 (fun k hk hy => by obtain ⟨_, h1, rfl⟩ := hk; cases h1; have h2 : vb = g := hy; exact hne h2)
   refine K.z (K.t (K.s ?_))
   -- region 17 slices.go:193
   refine K.g (K.q [.slice (some ⟨g, 0, none⟩) (xs.length + 1) cap, .slice (some ⟨g, 0, none⟩) (xs.length + 1) cap] (K.z (K.t (K.r (K.u ?_)))))
   refine ⟨.inr rfl, rfl, (.slice (some ⟨g, 0, none⟩) (xs.length + 1) cap), K.res1 rfl rfl, ?_⟩
   exact ⟨_, _, rfl, c_68, by rw [← ins_cellsC (size := 1) (fun _ => rfl) xs x hi hus1 rfl]; exact o_67, fun j hj => .inl (by obtain ⟨_, h, rfl⟩ := hj; cases h; rfl)⟩
end Go.Proofs.YtbfafebfkdbglaaGreat
