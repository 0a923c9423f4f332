import Derived.Test.YtnehocjmgnhhhaaFsl2
import Derived.Test.YtnehocjmgnhhhaaKn
/- slices.Delete over keys and pairs; with, without. -/
namespace Go.Proofs.Ytnehocjmgnhhhaa
open Go.RowKit
set_option linter.unusedVariables false
attribute [local irreducible] K.KW K.RW K.DW K.OW K.QR K.KC
set_option maxHeartbeats 1000000 in
set_option maxRecDepth 100000 in
theorem delU_ok (g i cap base : Nat) (xs : List Int) (w0 : World) (hm : xs.length ≤ 1000000000) (hi : i < xs.length) (how : K.Own w0 base 45 1 (some ⟨g, 0, none⟩) xs.length cap (xs.flatMap cU32)) :
  K.KC Try.prog 83 #[.slice (some ⟨g, 0, none⟩) xs.length cap, K.iv ((i : Nat) : Int), K.iv ((i + 1 : Nat) : Int)] w0 (fun v w' => v = .slice (some ⟨g, 0, none⟩) (i + (xs.length - (i + 1))) cap ∧ K.Chg (K.Ow (some ⟨g, 0, none⟩)) w0 w' ∧ K.Own w' base 45 1 (some ⟨g, 0, none⟩) (i + (xs.length - (i + 1))) cap ((xs.take i ++ xs.drop (i + 1)).flatMap cU32)) := by
 have hcap := how.le_cap
 refine K.KC.mk (n := 33) Try.func83 rfl rfl [.slice (some ⟨g, 0, none⟩) xs.length cap, K.iv ((i : Nat) : Int), K.iv ((i + 1 : Nat) : Int)] rfl rfl ?_
 have c_0 : K.Chg (K.Ow (some ⟨g, 0, none⟩)) w0 w0 := (K.Chg.refl w0).mono fun _ _ h => h.elim
 refine K.s ?_
 refine K.g (K.q [.slice none 0 0] (K.z (K.t (K.s ?_))))
 refine K.g (K.q [.slice (some ⟨g, 0, none⟩) xs.length cap, K.iv ((i : Nat) : Int), K.iv ((i + 1 : Nat) : Int), .slice (some ⟨g, 0, none⟩) xs.length cap] ?_)
 refine K.a (K.QR.len (P := Try.prog) rfl rfl Try.underlying27) ?_
 refine K.a (K.QR.sl3 (size := 1) i (i + 1) xs.length rfl rfl rfl rfl rfl Try.underlying27 (by kernel_rfl) (by omega) (by omega) (by omega)) ?_
 refine K.z (K.t (K.s (K.s ?_)))
 refine K.g (K.q [K.iv ((i : Nat) : Int), K.iv ((i + 1 : Nat) : Int)] ?_)
 refine K.xe (((i : Nat) : Int) : Int) (((i + 1 : Nat) : Int) : Int) (by omega) ?_
 refine K.z (K.t (K.f (K.k (K.t (K.s ?_)))))
 refine K.g (K.q [.slice (some ⟨g, 0, none⟩) xs.length cap] ?_)
 refine K.a (K.QR.len (P := Try.prog) rfl rfl Try.underlying27) ?_
 refine K.q [K.iv ((xs.length : Nat) : Int)] (K.z (K.t (K.s ?_)))
 refine K.KW.drawn (fun w => K.Chg (K.Ow (some ⟨g, 0, none⟩)) w0 w) (by kernel_rfl) ?_
 intro w_1 e_2 hs_3
 have c_5 := c_0.no e_2
 have z_6 := c_5.size
 have zz_7 := e_2.size
 have f_8 := how.no e_2
 have hS_4 : (fun w => K.Chg (K.Ow (some ⟨g, 0, none⟩)) w0 w) w_1 := c_5
 refine K.p 0 rfl (.slice (some ⟨g, 0, none⟩) xs.length cap) hS_4 ?_
 refine K.p 1 rfl (K.iv ((i : Nat) : Int)) hS_4 ?_
 refine K.m 2 rfl (fun w hS => K.QR.slHi (size := 1) i rfl rfl rfl Try.underlying27 (by kernel_rfl) (by omega)) hS_4 ?_
 refine K.p 3 rfl (.slice (some ⟨g, 0, none⟩) xs.length cap) hS_4 ?_
 refine K.b 4 rfl (K.iv ((i + 1 : Nat) : Int)) hS_4 ?_
 refine K.c 5 rfl (K.QR.slLo (size := 1) (m := xs.length) (k := xs.length - (i + 1)) (i + 1) rfl rfl rfl Try.underlying27 (by kernel_rfl) (by omega) rfl) hS_4 ?_
 refine K.DW.l 6 rfl (by kernel_rfl) rfl (K.OW.appV (P := Try.prog) (base := base) (ys := (xs.take i).flatMap cU32) (cs := (xs.flatMap cU32).drop ((i + 1) * 1)) (size := 1) rfl rfl rfl (f_8.take rfl (fun _ => rfl) i (by omega) (fun h => by cases h)) rfl Try.underlying27 (by kernel_rfl) (by rw [List.length_drop, K.fl_len (size := 1) (fun _ => rfl), Nat.sub_mul]) (fun h => ⟨_, shift_ltG (by omega), f_8.cellsAt⟩) (by intro v hv; obtain ⟨y, _, hy⟩ := List.mem_flatMap.1 (List.mem_of_mem_drop hv); exact ins1U y v hy) (by omega) ?_)
 intro w_9 e_10 hs_11 o_12
 have c_13 := c_5.trans e_10 (fun i hi hy => ⟨_, rfl, hy⟩)
 have hS_14 : (fun w => K.Chg (K.Ow (some ⟨g, 0, none⟩)) w0 w) w_9 := c_13
 refine ⟨.inl hS_14, ?_⟩
 refine K.b 7 rfl (.slice (some ⟨g, 0, none⟩) (i + (xs.length - (i + 1))) cap) hS_14 ?_
 refine K.DW.done (by kernel_rfl) ?_
 refine K.t (K.s ?_)
 refine K.g (K.q [.slice (some ⟨g, 0, none⟩) (i + (xs.length - (i + 1))) cap, .slice (some ⟨g, 0, none⟩) (i + (xs.length - (i + 1))) cap] ?_)
 refine K.a (K.QR.len (P := Try.prog) rfl rfl Try.underlying27) ?_
 refine K.q [K.iv ((xs.length : Nat) : Int)] ?_
 refine K.a (K.QR.slLoHi (size := 1) (i + (xs.length - (i + 1))) xs.length rfl rfl rfl rfl Try.underlying27 (by kernel_rfl) (by omega) (by omega)) ?_
 refine K.l (K.OW.clr (P := Try.prog) (z := .int .u32 0) (size := 1) (i + (xs.length - (i + 1))) rfl rfl rfl (fun _ => shift_ltG (by omega)) Try.underlying27 (by kernel_rfl) rfl (K.one_cells (by rfl)) o_12 (Nat.le_refl _) (by omega) ?_)
 intro w_15 e_16 hs_17 o_18
 have c_19 := c_13.trans e_16 (fun i hi hy => ⟨_, rfl, hy⟩)
 refine K.z (K.t (K.s ?_))
 refine K.g (K.q [.slice (some ⟨g, 0, none⟩) (i + (xs.length - (i + 1))) cap, .slice (some ⟨g, 0, none⟩) (i + (xs.length - (i + 1))) cap] (K.z (K.t (K.r ?_))))
 refine ⟨.inr rfl, rfl, (.slice (some ⟨g, 0, none⟩) (i + (xs.length - (i + 1))) cap), K.res1 rfl rfl, ?_⟩
 exact ⟨rfl, c_19, by rw [List.flatMap_append, ← K.fl_drop (size := 1) (fun _ => rfl)]; exact o_18⟩
set_option maxHeartbeats 1000000 in
set_option maxRecDepth 100000 in
theorem delP_ok (g i cap base : Nat) (xs : List PairM) (w0 : World) (hm : xs.length ≤ 1000000000) (hi : i < xs.length) (how : K.Own w0 base 59 2 (some ⟨g, 0, none⟩) xs.length cap (xs.flatMap cPair)) :
  K.KC Try.prog 89 #[.slice (some ⟨g, 0, none⟩) xs.length cap, K.iv ((i : Nat) : Int), K.iv ((i + 1 : Nat) : Int)] w0 (fun v w' => v = .slice (some ⟨g, 0, none⟩) (i + (xs.length - (i + 1))) cap ∧ K.Chg (K.Ow (some ⟨g, 0, none⟩)) w0 w' ∧ K.Own w' base 59 2 (some ⟨g, 0, none⟩) (i + (xs.length - (i + 1))) cap ((xs.take i ++ xs.drop (i + 1)).flatMap cPair)) := by
 have hcap := how.le_cap
 refine K.KC.mk (n := 33) Try.func89 rfl rfl [.slice (some ⟨g, 0, none⟩) xs.length cap, K.iv ((i : Nat) : Int), K.iv ((i + 1 : Nat) : Int)] rfl rfl ?_
 have c_0 : K.Chg (K.Ow (some ⟨g, 0, none⟩)) w0 w0 := (K.Chg.refl w0).mono fun _ _ h => h.elim
 refine K.s ?_
 refine K.g (K.q [.slice none 0 0] (K.z (K.t (K.s ?_))))
 refine K.g (K.q [.slice (some ⟨g, 0, none⟩) xs.length cap, K.iv ((i : Nat) : Int), K.iv ((i + 1 : Nat) : Int), .slice (some ⟨g, 0, none⟩) xs.length cap] ?_)
 refine K.a (K.QR.len (P := Try.prog) rfl rfl Try.underlying28) ?_
 refine K.a (K.QR.sl3 (size := 2) i (i + 1) xs.length rfl rfl rfl rfl rfl Try.underlying28 (by kernel_rfl) (by omega) (by omega) (by omega)) ?_
 refine K.z (K.t (K.s (K.s ?_)))
 refine K.g (K.q [K.iv ((i : Nat) : Int), K.iv ((i + 1 : Nat) : Int)] ?_)
 refine K.xe (((i : Nat) : Int) : Int) (((i + 1 : Nat) : Int) : Int) (by omega) ?_
 refine K.z (K.t (K.f (K.k (K.t (K.s ?_)))))
 refine K.g (K.q [.slice (some ⟨g, 0, none⟩) xs.length cap] ?_)
 refine K.a (K.QR.len (P := Try.prog) rfl rfl Try.underlying28) ?_
 refine K.q [K.iv ((xs.length : Nat) : Int)] (K.z (K.t (K.s ?_)))
 refine K.KW.drawn (fun w => K.Chg (K.Ow (some ⟨g, 0, none⟩)) w0 w) (by kernel_rfl) ?_
 intro w_1 e_2 hs_3
 have c_5 := c_0.no e_2
 have z_6 := c_5.size
 have zz_7 := e_2.size
 have f_8 := how.no e_2
 have hS_4 : (fun w => K.Chg (K.Ow (some ⟨g, 0, none⟩)) w0 w) w_1 := c_5
 refine K.p 0 rfl (.slice (some ⟨g, 0, none⟩) xs.length cap) hS_4 ?_
 refine K.p 1 rfl (K.iv ((i : Nat) : Int)) hS_4 ?_
 refine K.m 2 rfl (fun w hS => K.QR.slHi (size := 2) i rfl rfl rfl Try.underlying28 (by kernel_rfl) (by omega)) hS_4 ?_
 refine K.p 3 rfl (.slice (some ⟨g, 0, none⟩) xs.length cap) hS_4 ?_
 refine K.b 4 rfl (K.iv ((i + 1 : Nat) : Int)) hS_4 ?_
 refine K.c 5 rfl (K.QR.slLo (size := 2) (m := xs.length) (k := xs.length - (i + 1)) (i + 1) rfl rfl rfl Try.underlying28 (by kernel_rfl) (by omega) rfl) hS_4 ?_
 refine K.DW.l 6 rfl (by kernel_rfl) rfl (K.OW.appV (P := Try.prog) (base := base) (ys := (xs.take i).flatMap cPair) (cs := (xs.flatMap cPair).drop ((i + 1) * 2)) (size := 2) rfl rfl rfl (f_8.take rfl (fun _ => rfl) i (by omega) (fun h => by cases h)) rfl Try.underlying28 (by kernel_rfl) (by rw [List.length_drop, K.fl_len (size := 2) (fun _ => rfl), Nat.sub_mul]) (fun h => ⟨_, shift_ltG (by omega), f_8.cellsAt⟩) (by intro v hv; obtain ⟨y, _, hy⟩ := List.mem_flatMap.1 (List.mem_of_mem_drop hv); exact ins1P y v hy) (by omega) ?_)
 intro w_9 e_10 hs_11 o_12
 have c_13 := c_5.trans e_10 (fun i hi hy => ⟨_, rfl, hy⟩)
 have hS_14 : (fun w => K.Chg (K.Ow (some ⟨g, 0, none⟩)) w0 w) w_9 := c_13
 refine ⟨.inl hS_14, ?_⟩
 refine K.b 7 rfl (.slice (some ⟨g, 0, none⟩) (i + (xs.length - (i + 1))) cap) hS_14 ?_
 refine K.DW.done (by kernel_rfl) ?_
 refine K.t (K.s ?_)
 refine K.g (K.q [.slice (some ⟨g, 0, none⟩) (i + (xs.length - (i + 1))) cap, .slice (some ⟨g, 0, none⟩) (i + (xs.length - (i + 1))) cap] ?_)
 refine K.a (K.QR.len (P := Try.prog) rfl rfl Try.underlying28) ?_
 refine K.q [K.iv ((xs.length : Nat) : Int)] ?_
 refine K.a (K.QR.slLoHi (size := 2) (i + (xs.length - (i + 1))) xs.length rfl rfl rfl rfl Try.underlying28 (by kernel_rfl) (by omega) (by omega)) ?_
 refine K.l (K.OW.clr (P := Try.prog) (z := .agg #[.int .u32 0, .int .u32 0]) (size := 2) (i + (xs.length - (i + 1))) rfl rfl rfl (fun _ => shift_ltG (by omega)) Try.underlying28 (by kernel_rfl) rfl (K.one_cells (by rfl)) o_12 (Nat.le_refl _) (by omega) ?_)
 intro w_15 e_16 hs_17 o_18
 have c_19 := c_13.trans e_16 (fun i hi hy => ⟨_, rfl, hy⟩)
 refine K.z (K.t (K.s ?_))
 refine K.g (K.q [.slice (some ⟨g, 0, none⟩) (i + (xs.length - (i + 1))) cap, .slice (some ⟨g, 0, none⟩) (i + (xs.length - (i + 1))) cap] (K.z (K.t (K.r ?_))))
 refine ⟨.inr rfl, rfl, (.slice (some ⟨g, 0, none⟩) (i + (xs.length - (i + 1))) cap), K.res1 rfl rfl, ?_⟩
 exact ⟨rfl, c_19, by rw [List.flatMap_append, ← K.fl_drop (size := 2) (fun _ => rfl)]; exact o_18⟩
theorem insU_ok (a : Option Addr) (i cap vb cv base base2 : Nat) (xs : List Int) (x : Int) (w0 : World) (hm : xs.length ≤ 1000000000) (hi : i ≤ xs.length) (hbase : base ≤ w0.heap.size) (how : K.Own w0 base 45 1 a xs.length cap (xs.flatMap cU32))
  (hv : K.Own w0 base2 45 1 (some ⟨vb, 0, none⟩) 1 cv ([x].flatMap cU32)) (hne : ∀ k, K.Ow a k → ¬ k = vb) :
  K.KC Try.prog 81 #[.slice a xs.length cap, K.iv i, .slice (some ⟨vb, 0, none⟩) 1 cv] w0 (fun v w' => ∃ a' cap', v = .slice a' (xs.length + 1) cap' ∧ K.Chg (K.Ow a) w0 w' ∧ K.Own w' base 45 1 a' (xs.length + 1) cap' ((insT xs i x).flatMap cU32)) := by
 rcases how.form with ⟨rfl, h0, h1⟩ | ⟨g, rfl, _, _⟩
 ·obtain rfl : xs = [] := List.eq_nil_of_length_eq_zero h0
  obtain rfl : i = 0 := by simpa using hi
  obtain rfl := h1
  refine (insNU_ok vb cv base base2 x w0 hbase hv).mono fun v w h => ?_
  obtain ⟨a', cap', rfl, h2, h3, _⟩ := h
  exact ⟨a', cap', rfl, h2.mono fun _ _ h => h.elim, h3⟩
 ·refine (insSU_ok g i cap vb cv base base2 xs x w0 hm hi (fun h => hne g ⟨_, rfl, rfl⟩ h.symm) hbase how hv).mono fun v w h => ?_
  obtain ⟨a', cap', rfl, h2, h3, _⟩ := h
  exact ⟨a', cap', rfl, h2, h3⟩
theorem delAU_ok (a : Option Addr) (i cap base : Nat) (xs : List Int) (w0 : World) (hm : xs.length ≤ 1000000000) (hi : i < xs.length) (how : K.Own w0 base 45 1 a xs.length cap (xs.flatMap cU32)) :
  K.KC Try.prog 83 #[.slice a xs.length cap, K.iv i, K.iv ((i + 1 : Nat) : Int)] w0 (fun v w' => v = .slice a (xs.length - 1) cap ∧ K.Chg (K.Ow a) w0 w' ∧ K.Own w' base 45 1 a (xs.length - 1) cap ((delT xs i).flatMap cU32)) := by
 obtain ⟨g, rfl, _, _⟩ := how.some_ (by omega)
 have h := delU_ok g i cap base xs w0 hm hi how
 rw [show i + (xs.length - (i + 1)) = xs.length - 1 by omega] at h
 exact h
set_option maxHeartbeats 1000000 in
set_option maxRecDepth 100000 in
theorem withU_ok (a : Option Addr) (cap i : Nat) (xs : List Int) (x : Int) (w0 : World) (hm : xs.length ≤ 1000000000) (hi : i ≤ xs.length) (hx : RU32 w0 a xs) :
  K.KC Try.prog 69 #[.slice a xs.length cap, K.iv ((i : Nat) : Int), .int .u32 x] w0 (fun v w' => ∃ r c, v = .slice r (xs.length + 1) c ∧ K.Chg K.No w0 w' ∧ K.Own w' w0.heap.size 45 1 r (xs.length + 1) c ((insT xs i x).flatMap cU32)) := by
 refine K.KC.mk (n := 13) Try.func69 rfl rfl [.slice a xs.length cap, K.iv ((i : Nat) : Int), .int .u32 x] rfl rfl ?_
 refine K.s ?_
 refine K.g (K.q [.slice none 0 0] (K.z (K.t (K.s ?_))))
 refine K.g (K.q [.slice a xs.length cap] ?_)
 refine K.l (K.OW.call rfl [.slice a xs.length cap] rfl rfl (by kernel_rfl) (cloneU_ok _ _ xs _ (by omega) hx) ?_)
 rintro _ w_5 ⟨r_1, cc_2, rfl, c_3, o_4⟩
 have c_6 := c_3
 have z_7 := c_6.size
 have zz_8 := c_3.size
 have o_9 := K.Own.mono (base' := w0.heap.size) o_4 (by omega)
 refine K.q [K.iv ((i : Nat) : Int), .int .u32 x] ?_
 refine K.l (K.OW.bs rfl [(0, .int .u32 x)] [.int .u32 x] rfl rfl (fun w => K.bs_run (P := Try.prog) w 27 45 1 _ _ Try.underlying27 (by kernel_rfl)) ?_)
 intro w_10 r_11 hr_12 e_13 hs_14 b_15
 have c_16 := c_6.no e_13
 have z_17 := c_16.size
 have zz_18 := e_13.size
 have f_19 := o_9.no e_13
 have ap_20 : ∀ k, K.Ow r_1 k → ¬ k = r_11 := fun k hk he => absurd (o_9.lt k hk) (by omega)
 refine K.l (K.OW.call rfl [.slice r_1 xs.length cc_2, K.iv ((i : Nat) : Int), .slice (some ⟨r_11, 0, none⟩) 1 1] rfl rfl (by kernel_rfl) (insU_ok _ _ _ _ _ _ _ xs (x : Int) _ (by omega) (by omega) (by omega) f_19 (K.Own.of_blkL (size := 1) (base := w0.heap.size) (n := 1) (c := cU32) (L := [(x : Int)]) b_15 (by omega) rfl (by unfold maxLen; omega) (fun _ => rfl) rfl) ap_20) ?_)
 rintro _ w_25 ⟨r_21, cc_22, rfl, c_23, o_24⟩
 have c_26 := c_16.trans c_23 (fun i hi hy => absurd (f_19.base_le i hy) (by omega))
 have z_27 := c_26.size
 have zz_28 := c_23.size
 have f_30 := b_15.chg c_23 (fun hk => ap_20 _ hk rfl)
 have o_31 := K.Own.mono (base' := w0.heap.size) o_24 (by omega)
 refine K.q [.slice r_21 (xs.length + 1) cc_22] (K.z (K.t (K.r ?_)))
 refine ⟨.inr rfl, rfl, (.slice r_21 (xs.length + 1) cc_22), K.res1 rfl rfl, ?_⟩
 exact ⟨_, _, rfl, c_26, o_31⟩
set_option maxHeartbeats 1000000 in
set_option maxRecDepth 100000 in
theorem woutU_ok (a : Option Addr) (cap i : Nat) (xs : List Int) (w0 : World) (hm : xs.length ≤ 1000000000) (hi : i < xs.length) (hx : RU32 w0 a xs) :
  K.KC Try.prog 70 #[.slice a xs.length cap, K.iv ((i : Nat) : Int)] w0 (fun v w' => ∃ r c, v = .slice r (xs.length - 1) c ∧ K.Chg K.No w0 w' ∧ K.Own w' w0.heap.size 45 1 r (xs.length - 1) c ((delT xs i).flatMap cU32)) := by
 refine K.KC.mk (n := 11) Try.func70 rfl rfl [.slice a xs.length cap, K.iv ((i : Nat) : Int)] rfl rfl ?_
 refine K.s ?_
 refine K.g (K.q [.slice none 0 0] (K.z (K.t (K.s ?_))))
 refine K.g (K.q [.slice a xs.length cap] ?_)
 refine K.l (K.OW.call rfl [.slice a xs.length cap] rfl rfl (by kernel_rfl) (cloneU_ok _ _ xs _ (by omega) hx) ?_)
 rintro _ w_5 ⟨r_1, cc_2, rfl, c_3, o_4⟩
 have c_6 := c_3
 have z_7 := c_6.size
 have zz_8 := c_3.size
 have o_9 := K.Own.mono (base' := w0.heap.size) o_4 (by omega)
 refine K.q [K.iv ((i : Nat) : Int), K.iv ((i : Nat) : Int)] ?_
 refine K.a (K.QR.n64 ((((i : Nat) : Int) : Int) + (1 : Int)) ((i + 1 : Nat) : Int) (by kernel_rfl) (by omega)) ?_
 refine K.l (K.OW.call rfl [.slice r_1 xs.length cc_2, K.iv ((i : Nat) : Int), K.iv ((i + 1 : Nat) : Int)] rfl rfl (by kernel_rfl) (delAU_ok _ _ _ _ xs _ (by omega) (by omega) o_9) ?_)
 rintro _ w_12 ⟨rfl, c_10, o_11⟩
 have c_13 := c_6.trans c_10 (fun i hi hy => absurd (o_9.base_le i hy) (by omega))
 have z_14 := c_13.size
 have zz_15 := c_10.size
 have o_17 := K.Own.mono (base' := w0.heap.size) o_11 (by omega)
 refine K.q [.slice r_1 (xs.length - 1) cc_2] (K.z (K.t (K.r ?_)))
 refine ⟨.inr rfl, rfl, (.slice r_1 (xs.length - 1) cc_2), K.res1 rfl rfl, ?_⟩
 exact ⟨_, _, rfl, c_13, o_17⟩
theorem insP_ok (a : Option Addr) (i cap vb cv base base2 : Nat) (xs : List PairM) (x : PairM) (w0 : World) (hm : xs.length ≤ 1000000000) (hi : i ≤ xs.length) (hbase : base ≤ w0.heap.size) (how : K.Own w0 base 59 2 a xs.length cap (xs.flatMap cPair))
  (hv : K.Own w0 base2 59 2 (some ⟨vb, 0, none⟩) 1 cv ([x].flatMap cPair)) (hne : ∀ k, K.Ow a k → ¬ k = vb) :
  K.KC Try.prog 91 #[.slice a xs.length cap, K.iv i, .slice (some ⟨vb, 0, none⟩) 1 cv] w0 (fun v w' => ∃ a' cap', v = .slice a' (xs.length + 1) cap' ∧ K.Chg (K.Ow a) w0 w' ∧ K.Own w' base 59 2 a' (xs.length + 1) cap' ((insT xs i x).flatMap cPair)) := by
 rcases how.form with ⟨rfl, h0, h1⟩ | ⟨g, rfl, _, _⟩
 ·obtain rfl : xs = [] := List.eq_nil_of_length_eq_zero h0
  obtain rfl : i = 0 := by simpa using hi
  obtain rfl := h1
  refine (insNP_ok vb cv base base2 x w0 hbase hv).mono fun v w h => ?_
  obtain ⟨a', cap', rfl, h2, h3, _⟩ := h
  exact ⟨a', cap', rfl, h2.mono fun _ _ h => h.elim, h3⟩
 ·refine (insSP_ok g i cap vb cv base base2 xs x w0 hm hi (fun h => hne g ⟨_, rfl, rfl⟩ h.symm) hbase how hv).mono fun v w h => ?_
  obtain ⟨a', cap', rfl, h2, h3, _⟩ := h
  exact ⟨a', cap', rfl, h2, h3⟩
theorem delAP_ok (a : Option Addr) (i cap base : Nat) (xs : List PairM) (w0 : World) (hm : xs.length ≤ 1000000000) (hi : i < xs.length) (how : K.Own w0 base 59 2 a xs.length cap (xs.flatMap cPair)) :
  K.KC Try.prog 89 #[.slice a xs.length cap, K.iv i, K.iv ((i + 1 : Nat) : Int)] w0 (fun v w' => v = .slice a (xs.length - 1) cap ∧ K.Chg (K.Ow a) w0 w' ∧ K.Own w' base 59 2 a (xs.length - 1) cap ((delT xs i).flatMap cPair)) := by
 obtain ⟨g, rfl, _, _⟩ := how.some_ (by omega)
 have h := delP_ok g i cap base xs w0 hm hi how
 rw [show i + (xs.length - (i + 1)) = xs.length - 1 by omega] at h
 exact h
set_option maxHeartbeats 1000000 in
set_option maxRecDepth 100000 in
theorem withP_ok (a : Option Addr) (cap i : Nat) (xs : List PairM) (x : PairM) (w0 : World) (hm : xs.length ≤ 1000000000) (hi : i ≤ xs.length) (hx : RPr w0 a xs) :
  K.KC Try.prog 74 #[.slice a xs.length cap, K.iv ((i : Nat) : Int), .agg #[.int .u32 x.key, .int .u32 x.val]] w0 (fun v w' => ∃ r c, v = .slice r (xs.length + 1) c ∧ K.Chg K.No w0 w' ∧ K.Own w' w0.heap.size 59 2 r (xs.length + 1) c ((insT xs i x).flatMap cPair)) := by
 refine K.KC.mk (n := 13) Try.func74 rfl rfl [.slice a xs.length cap, K.iv ((i : Nat) : Int), .agg #[.int .u32 x.key, .int .u32 x.val]] rfl rfl ?_
 refine K.s ?_
 refine K.g ?_
 refine K.l (K.OW.new (t := 59) rfl (fun r => K.pa r) [.int .u32 x.key, .int .u32 x.val] (by kernel_rfl) ?_)
 intro w_1 r_2 hr_3 e_4 hs_5 b_6
 have c_7 := e_4
 have z_8 := c_7.size
 have zz_9 := e_4.size
 refine K.q [.slice none 0 0] (K.z (K.t (K.s ?_)))
 refine K.KW.drawn (fun w => K.Chg K.No w0 w ∧ (w.cell? ⟨r_2, 0, none⟩ = some (.int .u32 x.key)) ∧ (w.cell? ⟨r_2, 1, none⟩ = some (.int .u32 x.val))) (by kernel_rfl) ?_
 intro w_10 e_11 hs_12
 have c_14 := c_7.no e_11
 have z_15 := c_14.size
 have zz_16 := e_11.size
 have f_17 := b_6.no e_11
 have hS_13 : (fun w => K.Chg K.No w0 w ∧ (w.cell? ⟨r_2, 0, none⟩ = some (.int .u32 x.key)) ∧ (w.cell? ⟨r_2, 1, none⟩ = some (.int .u32 x.val))) w_10 := ⟨c_14, ((f_17).cell rfl), ((f_17).cell rfl)⟩
 refine K.p 0 rfl (.slice a xs.length cap) hS_13 ?_
 refine K.p 2 rfl (K.iv ((i : Nat) : Int)) hS_13 ?_
 refine K.m 3 rfl (fun w hS => K.QR.ldN [.int .u32 x.key, .int .u32 x.val] rfl rfl (by kernel_rfl) (by kernel_rfl) (K.cells (K.cl (hS.2.1) (K.cl (hS.2.2) K.cl0)))) hS_13 ?_
 refine K.DW.l2 1 4 rfl rfl (by kernel_rfl) rfl rfl ?_ ?_
 ·
  refine (K.OW.call rfl [.slice a xs.length cap] rfl rfl (by kernel_rfl) (cloneP_ok _ _ xs _ (by omega) (hx.no c_14)) ?_)
  rintro _ w_22 ⟨r_18, cc_19, rfl, c_20, o_21⟩
  have c_23 := c_14.no c_20
  have z_24 := c_23.size
  have zz_25 := c_20.size
  have f_26 := f_17.no c_20
  have ap_27 : ∀ k, K.Ow r_18 k → ¬ k = r_2 := fun k hk he => absurd (K.Own.base_le o_21 k hk) (by have := K.Blk.lt f_17; omega)
  have o_28 := K.Own.mono (base' := w0.heap.size) o_21 (by omega)
  have hS_29 : (fun w => K.Chg K.No w0 w ∧ (w.cell? ⟨r_2, 0, none⟩ = some (.int .u32 x.key)) ∧ (w.cell? ⟨r_2, 1, none⟩ = some (.int .u32 x.val))) w_22 := ⟨c_23, ((f_26).cell rfl), ((f_26).cell rfl)⟩
  refine ⟨.inl hS_29, ?_⟩
  refine K.DW.l 4 rfl (by kernel_rfl) rfl (K.OW.bs rfl [(0, .agg #[.int .u32 x.key, .int .u32 x.val])] [.int .u32 x.key, .int .u32 x.val] rfl rfl (fun w => K.bs_run (P := Try.prog) w 28 59 1 _ _ Try.underlying28 (by kernel_rfl)) ?_)
  intro w_30 r_31 hr_32 e_33 hs_34 b_35
  have c_36 := c_23.no e_33
  have z_37 := c_36.size
  have zz_38 := e_33.size
  have f_39 := f_26.no e_33
  have f_40 := o_28.no e_33
  have ap_41 : ∀ k, K.Ow r_18 k → ¬ k = r_31 := fun k hk he => absurd (o_28.lt k hk) (by omega)
  have hS_42 : (fun w => K.Chg K.No w0 w ∧ (w.cell? ⟨r_2, 0, none⟩ = some (.int .u32 x.key)) ∧ (w.cell? ⟨r_2, 1, none⟩ = some (.int .u32 x.val))) w_30 := ⟨c_36, ((f_39).cell rfl), ((f_39).cell rfl)⟩
  refine ⟨.inl hS_42, ?_⟩
  refine K.DW.l 5 rfl (by kernel_rfl) rfl (K.OW.call rfl [.slice r_18 xs.length cc_19, K.iv ((i : Nat) : Int), .slice (some ⟨r_31, 0, none⟩) 1 1] rfl rfl (by kernel_rfl) (insP_ok _ _ _ _ _ _ _ xs (⟨x.key, x.val⟩ : PairM) _ (by omega) (by omega) (by omega) f_40 (K.Own.of_blkL (size := 2) (base := w0.heap.size) (n := 1) (c := cPair) (L := [(⟨x.key, x.val⟩ : PairM)]) b_35 (by omega) rfl (by unfold maxLen; omega) (fun _ => rfl) rfl) ap_41) ?_)
  rintro _ w_47 ⟨r_43, cc_44, rfl, c_45, o_46⟩
  have c_48 := c_36.trans c_45 (fun i hi hy => absurd (f_40.base_le i hy) (by omega))
  have z_49 := c_48.size
  have zz_50 := c_45.size
  have f_51 := f_39.chg c_45 (fun hk => ap_27 _ hk rfl)
  have f_53 := b_35.chg c_45 (fun hk => ap_41 _ hk rfl)
  have o_54 := K.Own.mono (base' := w0.heap.size) o_46 (by omega)
  have hS_55 : (fun w => K.Chg K.No w0 w ∧ (w.cell? ⟨r_2, 0, none⟩ = some (.int .u32 x.key)) ∧ (w.cell? ⟨r_2, 1, none⟩ = some (.int .u32 x.val))) w_47 := ⟨c_48, ((f_51).cell rfl), ((f_51).cell rfl)⟩
  refine ⟨.inl hS_55, ?_⟩
  refine K.b 6 rfl (.slice r_43 (xs.length + 1) cc_44) hS_55 ?_
  refine K.DW.done (by kernel_rfl) ?_
  refine K.t (K.r ?_)
  refine ⟨.inr rfl, rfl, (.slice r_43 (xs.length + 1) cc_44), K.res1 rfl rfl, ?_⟩
  exact ⟨_, _, rfl, c_48, o_54⟩
 ·
  refine (K.OW.bs rfl [(0, .agg #[.int .u32 x.key, .int .u32 x.val])] [.int .u32 x.key, .int .u32 x.val] rfl rfl (fun w => K.bs_run (P := Try.prog) w 28 59 1 _ _ Try.underlying28 (by kernel_rfl)) ?_)
  intro w_56 r_57 hr_58 e_59 hs_60 b_61
  have c_62 := c_14.no e_59
  have z_63 := c_62.size
  have zz_64 := e_59.size
  have f_65 := f_17.no e_59
  have hS_66 : (fun w => K.Chg K.No w0 w ∧ (w.cell? ⟨r_2, 0, none⟩ = some (.int .u32 x.key)) ∧ (w.cell? ⟨r_2, 1, none⟩ = some (.int .u32 x.val))) w_56 := ⟨c_62, ((f_65).cell rfl), ((f_65).cell rfl)⟩
  refine ⟨.inl hS_66, ?_⟩
  refine K.DW.l 1 rfl (by kernel_rfl) rfl (K.OW.call rfl [.slice a xs.length cap] rfl rfl (by kernel_rfl) (cloneP_ok _ _ xs _ (by omega) (hx.no c_62)) ?_)
  rintro _ w_71 ⟨r_67, cc_68, rfl, c_69, o_70⟩
  have c_72 := c_62.no c_69
  have z_73 := c_72.size
  have zz_74 := c_69.size
  have f_75 := f_65.no c_69
  have f_76 := b_61.no c_69
  have ap_77 : ∀ k, K.Ow r_67 k → ¬ k = r_2 := fun k hk he => absurd (K.Own.base_le o_70 k hk) (by have := K.Blk.lt f_65; omega)
  have ap_78 : ∀ k, K.Ow r_67 k → ¬ k = r_57 := fun k hk he => absurd (K.Own.base_le o_70 k hk) (by have := K.Blk.lt b_61; omega)
  have o_79 := K.Own.mono (base' := w0.heap.size) o_70 (by omega)
  have hS_80 : (fun w => K.Chg K.No w0 w ∧ (w.cell? ⟨r_2, 0, none⟩ = some (.int .u32 x.key)) ∧ (w.cell? ⟨r_2, 1, none⟩ = some (.int .u32 x.val))) w_71 := ⟨c_72, ((f_75).cell rfl), ((f_75).cell rfl)⟩
  refine ⟨.inl hS_80, ?_⟩
  refine K.DW.l 5 rfl (by kernel_rfl) rfl (K.OW.call rfl [.slice r_67 xs.length cc_68, K.iv ((i : Nat) : Int), .slice (some ⟨r_57, 0, none⟩) 1 1] rfl rfl (by kernel_rfl) (insP_ok _ _ _ _ _ _ _ xs (⟨x.key, x.val⟩ : PairM) _ (by omega) (by omega) (by omega) o_79 (K.Own.of_blkL (size := 2) (base := w0.heap.size) (n := 1) (c := cPair) (L := [(⟨x.key, x.val⟩ : PairM)]) f_76 (by omega) rfl (by unfold maxLen; omega) (fun _ => rfl) rfl) ap_78) ?_)
  rintro _ w_85 ⟨r_81, cc_82, rfl, c_83, o_84⟩
  have c_86 := c_72.trans c_83 (fun i hi hy => absurd (o_79.base_le i hy) (by omega))
  have z_87 := c_86.size
  have zz_88 := c_83.size
  have f_89 := f_75.chg c_83 (fun hk => ap_77 _ hk rfl)
  have f_90 := f_76.chg c_83 (fun hk => ap_78 _ hk rfl)
  have o_92 := K.Own.mono (base' := w0.heap.size) o_84 (by omega)
  have hS_93 : (fun w => K.Chg K.No w0 w ∧ (w.cell? ⟨r_2, 0, none⟩ = some (.int .u32 x.key)) ∧ (w.cell? ⟨r_2, 1, none⟩ = some (.int .u32 x.val))) w_85 := ⟨c_86, ((f_89).cell rfl), ((f_89).cell rfl)⟩
  refine ⟨.inl hS_93, ?_⟩
  refine K.b 6 rfl (.slice r_81 (xs.length + 1) cc_82) hS_93 ?_
  refine K.DW.done (by kernel_rfl) ?_
  refine K.t (K.r ?_)
  refine ⟨.inr rfl, rfl, (.slice r_81 (xs.length + 1) cc_82), K.res1 rfl rfl, ?_⟩
  exact ⟨_, _, rfl, c_86, o_92⟩
set_option maxHeartbeats 1000000 in
set_option maxRecDepth 100000 in
theorem woutP_ok (a : Option Addr) (cap i : Nat) (xs : List PairM) (w0 : World) (hm : xs.length ≤ 1000000000) (hi : i < xs.length) (hx : RPr w0 a xs) :
  K.KC Try.prog 73 #[.slice a xs.length cap, K.iv ((i : Nat) : Int)] w0 (fun v w' => ∃ r c, v = .slice r (xs.length - 1) c ∧ K.Chg K.No w0 w' ∧ K.Own w' w0.heap.size 59 2 r (xs.length - 1) c ((delT xs i).flatMap cPair)) := by
 refine K.KC.mk (n := 11) Try.func73 rfl rfl [.slice a xs.length cap, K.iv ((i : Nat) : Int)] rfl rfl ?_
 refine K.s ?_
 refine K.g (K.q [.slice none 0 0] (K.z (K.t (K.s ?_))))
 refine K.g (K.q [.slice a xs.length cap] ?_)
 refine K.l (K.OW.call rfl [.slice a xs.length cap] rfl rfl (by kernel_rfl) (cloneP_ok _ _ xs _ (by omega) hx) ?_)
 rintro _ w_5 ⟨r_1, cc_2, rfl, c_3, o_4⟩
 have c_6 := c_3
 have z_7 := c_6.size
 have zz_8 := c_3.size
 have o_9 := K.Own.mono (base' := w0.heap.size) o_4 (by omega)
 refine K.q [K.iv ((i : Nat) : Int), K.iv ((i : Nat) : Int)] ?_
 refine K.a (K.QR.n64 ((((i : Nat) : Int) : Int) + (1 : Int)) ((i + 1 : Nat) : Int) (by kernel_rfl) (by omega)) ?_
 refine K.l (K.OW.call rfl [.slice r_1 xs.length cc_2, K.iv ((i : Nat) : Int), K.iv ((i + 1 : Nat) : Int)] rfl rfl (by kernel_rfl) (delAP_ok _ _ _ _ xs _ (by omega) (by omega) o_9) ?_)
 rintro _ w_12 ⟨rfl, c_10, o_11⟩
 have c_13 := c_6.trans c_10 (fun i hi hy => absurd (o_9.base_le i hy) (by omega))
 have z_14 := c_13.size
 have zz_15 := c_10.size
 have o_17 := K.Own.mono (base' := w0.heap.size) o_11 (by omega)
 refine K.q [.slice r_1 (xs.length - 1) cc_2] (K.z (K.t (K.r ?_)))
 refine ⟨.inr rfl, rfl, (.slice r_1 (xs.length - 1) cc_2), K.res1 rfl rfl, ?_⟩
 exact ⟨_, _, rfl, c_13, o_17⟩
end Go.Proofs.Ytnehocjmgnhhhaa
