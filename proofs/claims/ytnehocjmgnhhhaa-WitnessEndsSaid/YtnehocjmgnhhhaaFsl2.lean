import Derived.Lib.Overlaps
import Derived.Laws.Externs
import Derived.Test.YtnehocjmgnhhhaaFsl
import Derived.Test.YtnehocjmgnhhhaaKv
import Derived.Test.YtnehocjmgnhhhaaKn
/- slices.Insert and Delete over keys and pairs. -/
namespace Go.Proofs.Ytnehocjmgnhhhaa
open Go.RowKit
set_option linter.unusedVariables false
attribute [local irreducible] K.KW K.RW K.DW K.OW K.QR K.KC
theorem QR.overlaps {n : Nat} {F : K.Fr} {w : World} {o : Oper} {x y : Operand} {f : FuncId} {ats : Array TypeId} {va g off la ca lb cb : Nat} {yp : Option Addr}
  (ho : o.op = .call { callee := .value (.func f), args := #[x, y], argTypes := ats }) (hx : K.ev n F x = .slice (some ⟨va, 0, none⟩) la ca) (hy : K.ev n F y = .slice yp lb cb) (hp : yp = some ⟨g, off, none⟩)
  (hrun : (callFunc f #[.slice (some ⟨va, 0, none⟩) la ca, .slice (some ⟨g, off, none⟩) lb cb]).run Try.prog w = .ok (.value (.bool false)) w) : K.QR Try.prog n F o (.bool false) w := by
 subst hp
 unfold K.QR execOp
 rw [ho]
 have hf : K.ev n F (.func f) = .func (.func f) #[] #[] := rfl
 simp [resolve, Deferred.ofValue, invoke, hx, hy, hf, hrun]
theorem shift_ltG {g n k sz : Nat} (h : k < n) : K.shift (some ⟨g, 0, none⟩) n k sz = some ⟨g, k * sz, none⟩ := by
 unfold K.shift
 rw [if_neg (by omega)]
 simp only [Option.map_some, Addr.add]
 split <;> simp_all
section
variable {α : Type} {c : α → List Value} {size : Nat}
theorem ins_cellsB (hc : ∀ x, (c x).length = size) (xs : List α) (x : α) {i : Nat} (hi : i ≤ xs.length) {zs : List Value} (hz : zs.length = (xs.length + 1 - i) * size) {Y1 : List Value}
  (h1 : Y1 = ((xs.take i).flatMap c ++ zs).take (i * size) ++ ([x].flatMap c ++ ((xs.take i).flatMap c ++ zs).drop ((i + 1) * size))) :
  Y1.take ((i + 1) * size) ++ ((xs.flatMap c).drop (i * size) ++ Y1.drop ((i + 1 + (xs.length - i)) * size)) = (xs.take i ++ x :: xs.drop i).flatMap c := by
 obtain ⟨k, hk⟩ : ∃ k, xs.length = i + k := ⟨xs.length - i, by omega⟩
 have hA : ((xs.take i).flatMap c).length = i * size := by rw [K.fl_len hc, List.length_take, Nat.min_eq_left hi]
 have hX : ([x].flatMap c).length = size := by rw [K.fl_len hc]; simp
 rw [hk, show i + k + 1 - i = k + 1 by omega, Nat.succ_mul] at hz
 have e1 : ((xs.take i).flatMap c ++ zs).take (i * size) = (xs.take i).flatMap c := by rw [List.take_append_of_le_length (by omega), List.take_of_length_le (by omega)]
 have e2 : ((xs.take i).flatMap c ++ zs).drop ((i + 1) * size) = zs.drop size := by rw [List.drop_append, hA, Nat.succ_mul, List.drop_of_length_le (by omega), Nat.add_sub_cancel_left, List.nil_append]
 rw [e1, e2] at h1
 have hl : (zs.drop size).length = k * size := by rw [List.length_drop]; omega
 have hAX : ((xs.take i).flatMap c ++ [x].flatMap c).length = (i + 1) * size := by rw [List.length_append, hA, hX, Nat.succ_mul]
 rw [← List.append_assoc] at h1
 rw [h1, List.take_append_of_le_length (by omega), List.take_of_length_le (by omega), List.drop_of_length_le (l := _ ++ _) (by rw [List.length_append, hAX, hl, hk, show i + k - i = k by omega, ← Nat.add_mul]; exact Nat.le_refl _), List.append_nil, K.fl_drop hc, ← List.flatMap_append, ← List.flatMap_append]
 simp
theorem ins_cellsC (hc : ∀ x, (c x).length = size) (xs : List α) (x : α) {i : Nat} (hi : i ≤ xs.length) {us : List Value} (hu : us.length = size) {Y1 : List Value}
  (h1 : Y1 = (xs.flatMap c ++ us).take ((i + 1) * size) ++ ((xs.flatMap c).drop (i * size) ++ (xs.flatMap c ++ us).drop ((i + 1 + (xs.length - i)) * size))) :
  Y1.take (i * size) ++ ([x].flatMap c ++ Y1.drop ((i + 1) * size)) = (xs.take i ++ x :: xs.drop i).flatMap c := by
 obtain ⟨k, hk⟩ : ∃ k, xs.length = i + k := ⟨xs.length - i, by omega⟩
 have hF : (xs.flatMap c).length = i * size + k * size := by rw [K.fl_len hc, hk, Nat.add_mul]
 have hD : ((xs.flatMap c).drop (i * size)).length = k * size := by rw [List.length_drop]; omega
 have hFu : (xs.flatMap c ++ us).length = i * size + k * size + size := by rw [List.length_append, hF, hu]
 have e3 : (xs.flatMap c ++ us).drop ((i + 1 + (xs.length - i)) * size) = [] := List.drop_of_length_le (by rw [hFu, hk, show i + k - i = k by omega, Nat.add_mul, Nat.succ_mul]; omega)
 rw [e3, List.append_nil] at h1
 have hT : ((xs.flatMap c ++ us).take ((i + 1) * size)).length = (i + 1) * size := by rw [List.length_take, hFu, Nat.succ_mul]; exact Nat.min_eq_left (by omega)
 have e4 : Y1.drop ((i + 1) * size) = (xs.flatMap c).drop (i * size) := by rw [h1, List.drop_append, hT, List.drop_of_length_le (by omega), Nat.sub_self, List.drop_zero, List.nil_append]
 have e5 : Y1.take (i * size) = (xs.take i).flatMap c := by
  rw [h1, List.take_append_of_le_length (by rw [hT, Nat.succ_mul]; omega), List.take_take, Nat.min_eq_left (by rw [Nat.succ_mul]; omega), List.take_append_of_le_length (by omega), K.fl_take hc]
 rw [e4, e5, K.fl_drop hc, ← List.flatMap_append, ← List.flatMap_append]
 simp
end
theorem ovlU {w : World} {base base2 vb g cv cap lb cb off n : Nat} {xs ys : List Value} (hne : ¬ vb = g) (how : K.Own w base 45 1 (some ⟨g, 0, none⟩) n cap xs) (hv : K.Own w base2 45 1 (some ⟨vb, 0, none⟩) 1 cv ys) (hc : 0 < cap) (hcv : 0 ≤ cv) :
  (callFunc 92 #[.slice (some ⟨vb, 0, none⟩) 1 cv, .slice (some ⟨g, off, none⟩) lb cb]).run Try.prog w = .ok (.value (.bool false)) w := by
 obtain ⟨c1, _, h1, _, _, hs1, _⟩ := how.cur
 obtain ⟨c2, _, h2, _, _, hs2, _⟩ := hv.cur
 have hz : ∀ w, (Go.sizeOf 45).run Try.prog w = .ok 1 w := fun w => by
  obtain ⟨i, hi, hsz⟩ := Option.map_eq_some_iff.1 (show (Try.prog.info? 45).map (·.size) = some 1 by kernel_rfl)
  simp [Go.sizeOf, typeInfo, hi, hsz]
 rw [run_callFunc_extern Try.func92 (by kernel_rfl) (by kernel_rfl) (by kernel_rfl) (e := Extern.SlicesOverlaps.overlaps #[27, 27] #[4]) (by kernel_rfl),
  Lib.run_overlaps_apart w 27 4 45 Try.underlying27 1 hz ⟨vb, 0, none⟩ ⟨g, off, none⟩ 1 cv lb cb hne 45 45 c2.size c1.size (by simp [World.shape?, h2]) (by simp [World.shape?, h1]) (by rw [hs1]; omega) (by simp [World.frozen?, h2]) (by simp [World.frozen?, h2])]
 rfl
theorem ovlP {w : World} {base base2 vb g cv cap lb cb off n : Nat} {xs ys : List Value} (hne : ¬ vb = g) (how : K.Own w base 59 2 (some ⟨g, 0, none⟩) n cap xs) (hv : K.Own w base2 59 2 (some ⟨vb, 0, none⟩) 1 cv ys) (hc : 0 < cap) (hcv : 0 ≤ cv) :
  (callFunc 95 #[.slice (some ⟨vb, 0, none⟩) 1 cv, .slice (some ⟨g, off, none⟩) lb cb]).run Try.prog w = .ok (.value (.bool false)) w := by
 obtain ⟨c1, _, h1, _, _, hs1, _⟩ := how.cur
 obtain ⟨c2, _, h2, _, _, hs2, _⟩ := hv.cur
 have hz : ∀ w, (Go.sizeOf 59).run Try.prog w = .ok 2 w := fun w => by
  obtain ⟨i, hi, hsz⟩ := Option.map_eq_some_iff.1 (show (Try.prog.info? 59).map (·.size) = some 2 by kernel_rfl)
  simp [Go.sizeOf, typeInfo, hi, hsz]
 rw [run_callFunc_extern Try.func95 (by kernel_rfl) (by kernel_rfl) (by kernel_rfl) (e := Extern.SlicesOverlaps.overlaps #[28, 28] #[4]) (by kernel_rfl),
  Lib.run_overlaps_apart w 28 4 59 Try.underlying28 2 hz ⟨vb, 0, none⟩ ⟨g, off, none⟩ 1 cv lb cb hne 59 59 c2.size c1.size (by simp [World.shape?, h2]) (by simp [World.shape?, h1]) (by rw [hs1]; omega) (by simp [World.frozen?, h2]) (by simp [World.frozen?, h2])]
 rfl
theorem ins1U (y : Int) : ∀ v ∈ cU32 y, v.oneCell' = true := K.one_cells (by rfl)
theorem ins1P (y : PairM) : ∀ v ∈ cPair y, v.oneCell' = true := K.one_cells (by rfl)
set_option maxHeartbeats 1000000 in
set_option maxRecDepth 100000 in
theorem insNU_ok (vb cv base base2 : Nat) (x : Int) (w0 : World) (hbase : base ≤ w0.heap.size) (hv : K.Own w0 base2 45 1 (some ⟨vb, 0, none⟩) 1 cv ([x].flatMap cU32)) :
  K.KC Try.prog 81 #[.slice none 0 0, K.iv 0, .slice (some ⟨vb, 0, none⟩) 1 cv] w0 (fun v w' => ∃ a' cap', v = .slice a' (0 + 1) cap' ∧ K.Chg K.No w0 w' ∧ K.Own w' base 45 1 a' (0 + 1) cap' ((([x] : List Int)).flatMap cU32) ∧ (∀ j, K.Ow a' j →  w0.heap.size ≤ j)) := by
 refine K.KC.mk (n := 95) Try.func81 rfl rfl [.slice none 0 0, K.iv 0, .slice (some ⟨vb, 0, none⟩) 1 cv] rfl rfl ?_
 refine K.s ?_
 refine K.g (K.q [.slice none 0 0] (K.z (K.t (K.s ?_))))
 refine K.g (K.q [.slice none 0 0, K.iv 0] ?_)
 refine K.a (K.QR.slLo (size := 1) (m := 0) (k := 0) 0 rfl rfl rfl Try.underlying27 (by kernel_rfl) (Nat.le_refl _) rfl) ?_
 refine K.z (K.t (K.s ?_))
 refine K.g (K.q [.slice (some ⟨vb, 0, none⟩) 1 cv] ?_)
 refine K.a (K.QR.len (P := Try.prog) rfl rfl Try.underlying27) ?_
 refine K.q [K.iv 1] (K.z (K.t (K.s (K.s ?_))))
 refine K.g (K.q [K.iv 1, .bool false] (K.z (K.t (K.f (K.k (K.t (K.s ?_)))))))
 refine K.g (K.q [.slice none 0 0] ?_)
 refine K.a (K.QR.len (P := Try.prog) rfl rfl Try.underlying27) ?_
 refine K.q [K.iv 0] (K.z (K.t (K.s (K.s ?_))))
 refine K.g (K.q [K.iv 0, K.iv 0, .bool true] (K.z (K.t (K.h (K.s ?_)))))
 refine K.g (K.q [.slice none 0 0, .slice (some ⟨vb, 0, none⟩) 1 cv] ?_)
 refine K.l (K.OW.app2 (P := Try.prog) (base := base) (xs := []) (z := .int .u32 0) (size := 1) (bytes := 4) rfl ([x].flatMap cU32) rfl rfl (K.Own.nil _ _ _ _) rfl Try.underlying27 (by kernel_rfl) rfl (by decide) (by rfl) (fun j u hj => by have h := (hv).cells j u hj; rw [K.Addr.add_off] at h; exact h) (by intro v hv; obtain ⟨y, _, hy⟩ := List.mem_flatMap.1 hv; exact ins1U y v hy) (by unfold maxLen; omega) (by omega) (by omega) ?_)
 intro a_1 cap_2 w_3 e_4 o_5 hk_6
 have e_4n := K.Chg.ow_none e_4
 have c_7 := e_4n
 have z_8 := c_7.size
 have zz_9 := e_4n.size
 refine K.q [.slice a_1 (0 + 1) cap_2] (K.z (K.t (K.r (K.u ?_))))
 refine ⟨.inr rfl, rfl, (.slice a_1 (0 + 1) cap_2), K.res1 rfl rfl, ?_⟩
 exact ⟨_, _, rfl, c_7, o_5, fun j hj => (hk_6 j hj).elim (fun h => by obtain ⟨_, h, _⟩ := h; cases h) (fun h => by omega)⟩
set_option maxHeartbeats 1000000 in
set_option maxRecDepth 100000 in
theorem insSU_ok (g i cap vb cv base base2 : Nat) (xs : List Int) (x : Int) (w0 : World) (hm : xs.length ≤ 1000000000) (hi : i ≤ xs.length) (hne : ¬ vb = g) (hbase : base ≤ w0.heap.size) (how : K.Own w0 base 45 1 (some ⟨g, 0, none⟩) xs.length cap (xs.flatMap cU32)) (hv : K.Own w0 base2 45 1 (some ⟨vb, 0, none⟩) 1 cv ([x].flatMap cU32)) :
  K.KC Try.prog 81 #[.slice (some ⟨g, 0, none⟩) xs.length cap, K.iv ((i : Nat) : Int), .slice (some ⟨vb, 0, none⟩) 1 cv] w0 (fun v w' => ∃ a' cap', v = .slice a' (xs.length + 1) cap' ∧ K.Chg (K.Ow (some ⟨g, 0, none⟩)) w0 w' ∧ K.Own w' base 45 1 a' (xs.length + 1) cap' (((xs.take i ++ x :: xs.drop i : List Int)).flatMap cU32) ∧ (∀ j, K.Ow a' j → j = g ∨ w0.heap.size ≤ j)) := by
 have hcap := how.le_cap
 have hgl : g < w0.heap.size := how.lt g ⟨_, rfl, rfl⟩
 have hvl : vb < w0.heap.size := hv.lt vb ⟨_, rfl, rfl⟩
 have hti := how.take rfl (fun _ => rfl) i hi (fun h => by cases h)
 refine K.KC.mk (n := 95) Try.func81 rfl rfl [.slice (some ⟨g, 0, none⟩) xs.length cap, K.iv ((i : Nat) : Int), .slice (some ⟨vb, 0, none⟩) 1 cv] rfl rfl ?_
 have c_0 : K.Chg (K.Ow (some ⟨g, 0, none⟩)) w0 w0 := (K.Chg.refl w0).mono fun _ _ h => h.elim
 refine K.s ?_
 refine K.g (K.q [.slice none 0 0] (K.z (K.t (K.s ?_))))
 refine K.g (K.q [.slice (some ⟨g, 0, none⟩) xs.length cap, K.iv ((i : Nat) : Int)] ?_)
 refine K.a (K.QR.slLo (size := 1) (m := xs.length) (k := xs.length - i) i rfl rfl rfl Try.underlying27 (by kernel_rfl) (by omega) rfl) ?_
 refine K.z (K.t (K.s ?_))
 refine K.g (K.q [.slice (some ⟨vb, 0, none⟩) 1 cv] ?_)
 refine K.a (K.QR.len (P := Try.prog) rfl rfl Try.underlying27) ?_
 refine K.q [K.iv 1] (K.z (K.t (K.s (K.s ?_))))
 refine K.g (K.q [K.iv 1, .bool false] (K.z (K.t (K.f (K.k (K.t (K.s ?_)))))))
 refine K.g (K.q [.slice (some ⟨g, 0, none⟩) xs.length cap] ?_)
 refine K.a (K.QR.len (P := Try.prog) rfl rfl Try.underlying27) ?_
 refine K.q [K.iv ((xs.length : Nat) : Int)] (K.z (K.t (K.s (K.s ?_))))
 refine K.g (K.q [K.iv ((i : Nat) : Int), K.iv ((xs.length : Nat) : Int)] ?_)
 by_cases h_1 : (((i : Nat) : Int) : Int) = (((xs.length : Nat) : Int) : Int)
 ·
  refine K.ye (((i : Nat) : Int) : Int) (((xs.length : Nat) : Int) : Int) h_1 ?_
  refine K.z (K.t (K.h (K.s ?_)))
  refine K.g (K.q [.slice (some ⟨g, 0, none⟩) xs.length cap, .slice (some ⟨vb, 0, none⟩) 1 cv] ?_)
  refine K.l (K.OW.app2 (P := Try.prog) (base := base) (xs := xs.flatMap cU32) (z := .int .u32 0) (size := 1) (bytes := 4) rfl ([x].flatMap cU32) rfl rfl how rfl Try.underlying27 (by kernel_rfl) rfl (by decide) (by rfl) (fun j u hj => by have h := hv.cells j u hj; rw [K.Addr.add_off] at h; exact h) (by intro v hv; obtain ⟨y, _, hy⟩ := List.mem_flatMap.1 hv; exact ins1U y v hy) (by unfold maxLen; omega) (by omega) (by omega) ?_)
  intro a_2 cap_3 w_4 e_5 o_6 hk_7
  have c_8 := c_0.trans e_5 (fun i hi hy => hy)
  refine K.q [.slice a_2 (xs.length + 1) cap_3] (K.z (K.t (K.r (K.u ?_))))
  refine ⟨.inr rfl, rfl, (.slice a_2 (xs.length + 1) cap_3), K.res1 rfl rfl, ?_⟩
  obtain rfl : i = xs.length := by omega
  exact ⟨_, _, rfl, c_8, by rw [List.take_length, List.drop_length, List.flatMap_append]; exact o_6, fun j hj => (hk_7 j hj).imp (fun h => by obtain ⟨_, h, rfl⟩ := h; cases h; rfl) id⟩
 ·
  refine K.xe (((i : Nat) : Int) : Int) (((xs.length : Nat) : Int) : Int) h_1 ?_
  refine K.z (K.t (K.f (K.k (K.t (K.s (K.s ?_))))))
  refine K.g (K.q [K.iv ((xs.length : Nat) : Int), K.iv 1] ?_)
  refine K.a (K.QR.n64 ((((xs.length : Nat) : Int) : Int) + (1 : Int)) ((xs.length + 1 : Nat) : Int) (by kernel_rfl) (by omega)) ?_
  refine K.q [.slice (some ⟨g, 0, none⟩) xs.length cap] ?_
  refine K.a (K.QR.cap (P := Try.prog) rfl rfl Try.underlying27) ?_
  by_cases h_9 : (((xs.length + 1 : Nat) : Int) : Int) > (((cap : Nat) : Int) : Int)
  ·
   refine K.y ((((xs.length + 1 : Nat) : Int) : Int) > (((cap : Nat) : Int) : Int)) h_9 ?_
   refine K.z (K.t (K.h (K.s ?_)))
   refine K.g (K.q [.slice (some ⟨g, 0, none⟩) xs.length cap, K.iv ((i : Nat) : Int)] ?_)
   refine K.a (K.QR.slHi (size := 1) i rfl rfl rfl Try.underlying27 (by kernel_rfl) (by omega)) ?_
   refine K.q [K.iv ((xs.length : Nat) : Int), K.iv 1] ?_
   refine K.a (K.QR.n64 ((((xs.length : Nat) : Int) : Int) + (1 : Int)) ((xs.length + 1 : Nat) : Int) (by kernel_rfl) (by omega)) ?_
   refine K.q [K.iv ((i : Nat) : Int)] ?_
   refine K.a (K.QR.turn (v := K.iv ((((xs.length + 1 : Nat) : Int) : Int) - (((i : Nat) : Int) : Int))) (K.QR.n64 ((((xs.length + 1 : Nat) : Int) : Int) - (((i : Nat) : Int) : Int)) ((((xs.length + 1 : Nat) : Int) : Int) - (((i : Nat) : Int) : Int)) (by kernel_rfl) (by omega)) (congrArg (Value.int .i64) (show ((((xs.length + 1 : Nat) : Int) : Int) - (((i : Nat) : Int) : Int) : Int) = (((xs.length + 1 - i : Nat) : Int) : Int) from by omega))) ?_
   refine K.l (K.OW.growZ (P := Try.prog) (base := base) (olds := (xs.take i).flatMap cU32) (k := xs.length + 1 - i) (z := .int .u32 0) (size := 1) (bytes := 4) rfl rfl rfl rfl Try.underlying27 Try.underlying3 (by kernel_rfl) rfl (by decide) hti (by omega) (by omega) (by unfold maxLen; omega) (by omega) (by omega) ?_)
   intro r_10 cap_11 w_12 zs_13 hr_14 e_15 hz_16 o_17
   have c_18 := c_0.no e_15
   have hc_19 := o_17.le_cap
   have f_20 := how.no e_15
   have f_21 := hv.no e_15
   refine K.q [.slice (some ⟨r_10, 0, none⟩) (i + (xs.length + 1 - i)) cap_11] (K.z (K.t (K.s ?_)))
   refine K.g (K.q [.slice (some ⟨r_10, 0, none⟩) (i + (xs.length + 1 - i)) cap_11, K.iv ((i : Nat) : Int)] ?_)
   refine K.a (K.QR.slLo (size := 1) (m := (i + (xs.length + 1 - i))) (k := (i + (xs.length + 1 - i)) - i) i rfl rfl rfl Try.underlying27 (by kernel_rfl) (by omega) rfl) ?_
   refine K.q [.slice (some ⟨vb, 0, none⟩) 1 cv] ?_
   refine K.l (K.OW.cpV (P := Try.prog) (g := r_10) (N := (i + (xs.length + 1 - i))) (ys := ((xs.take i).flatMap cU32 ++ zs_13)) (cs := ([x].flatMap cU32)) (size := 1) i 1 rfl rfl rfl rfl (by omega) (shift_ltG (by omega)) Try.underlying27 (by kernel_rfl) (by show _ = (min _ _ : Nat); omega) o_17 (by omega) (by rw [K.fl_len (size := 1) (fun _ => rfl)]; rfl) ⟨_, rfl, f_21.cells⟩ (by intro v hv; obtain ⟨y, _, hy⟩ := List.mem_flatMap.1 hv; exact ins1U y v hy) ?_)
   intro w_22 e_23 hs_24 o_25
   have c_26 := c_18.own e_23 (by omega)
   have f_27 := f_21.chg e_23 (fun k hk hy => by obtain ⟨_, h1, rfl⟩ := hk; cases h1; have h2 : vb = r_10 := hy; omega)
   have f_28 := f_20.chg e_23 (fun k hk hy => by obtain ⟨_, h1, rfl⟩ := hk; cases h1; have h2 : g = r_10 := hy; omega)
   refine K.z (K.t (K.s ?_))
   refine K.KW.drawn (fun w => K.Chg (K.Ow (some ⟨g, 0, none⟩)) w0 w) (by kernel_rfl) ?_
   intro w_29 e_30 hs_31
   have c_33 := c_26.no e_30
   have z_34 := c_33.size
   have zz_35 := e_30.size
   have f_36 := f_27.no e_30
   have f_37 := f_28.no e_30
   have f_38 := o_25.no e_30
   have hS_32 : (fun w => K.Chg (K.Ow (some ⟨g, 0, none⟩)) w0 w) w_29 := c_33
   refine K.p 0 rfl (.slice (some ⟨r_10, 0, none⟩) (i + (xs.length + 1 - i)) cap_11) hS_32 ?_
   refine K.p 1 rfl (K.iv ((i : Nat) : Int)) hS_32 ?_
   refine K.p 2 rfl (K.iv 1) hS_32 ?_
   refine K.m 3 rfl (fun w hS => K.QR.n64 ((((i : Nat) : Int) : Int) + (1 : Int)) ((i + 1 : Nat) : Int) (by kernel_rfl) (by omega)) hS_32 ?_
   refine K.m 4 rfl (fun w hS => K.QR.slLo (size := 1) (m := (i + (xs.length + 1 - i))) (k := (i + (xs.length + 1 - i)) - (i + 1)) (i + 1) rfl rfl rfl Try.underlying27 (by kernel_rfl) (by omega) rfl) hS_32 ?_
   refine K.p 5 rfl (.slice (some ⟨g, 0, none⟩) xs.length cap) hS_32 ?_
   refine K.b 6 rfl (K.iv ((i : Nat) : Int)) hS_32 ?_
   refine K.c 7 rfl (K.QR.slLo (size := 1) (m := xs.length) (k := xs.length - i) i rfl rfl rfl Try.underlying27 (by kernel_rfl) (by omega) rfl) hS_32 ?_
   refine K.DW.l 8 rfl (by kernel_rfl) rfl (K.OW.cpV (P := Try.prog) (g := r_10) (N := (i + (xs.length + 1 - i))) (ys := (((xs.take i).flatMap cU32 ++ zs_13).take (i * 1) ++ ([x].flatMap cU32 ++ ((xs.take i).flatMap cU32 ++ zs_13).drop ((i + 1) * 1)))) (cs := ((xs.flatMap cU32).drop (i * 1))) (size := 1) (i + 1) (xs.length - i) rfl rfl rfl rfl (by omega) (shift_ltG (by omega)) Try.underlying27 (by kernel_rfl) (by show _ = (min _ _ : Nat); omega) f_38 (by omega) (by rw [List.length_drop, K.fl_len (size := 1) (fun _ => rfl), Nat.sub_mul]) ⟨_, shift_ltG (by omega), f_37.cellsAt⟩ (by intro v hv; obtain ⟨y, _, hy⟩ := List.mem_flatMap.1 (List.mem_of_mem_drop hv); exact ins1U y v hy) ?_)
   intro w_39 e_40 hs_41 o_42
   have c_43 := c_33.own e_40 (by omega)
   have f_44 := f_36.chg e_40 (fun k hk hy => by obtain ⟨_, h1, rfl⟩ := hk; cases h1; have h2 : vb = r_10 := hy; omega)
   have f_45 := f_37.chg e_40 (fun k hk hy => by obtain ⟨_, h1, rfl⟩ := hk; cases h1; have h2 : g = r_10 := hy; omega)
   have hS_46 : (fun w => K.Chg (K.Ow (some ⟨g, 0, none⟩)) w0 w) w_39 := c_43
   refine ⟨.inl hS_46, ?_⟩
   refine K.DW.done (by kernel_rfl) ?_
   refine K.t (K.s ?_)
   refine K.g (K.q [.slice (some ⟨r_10, 0, none⟩) (i + (xs.length + 1 - i)) cap_11, .slice (some ⟨r_10, 0, none⟩) (i + (xs.length + 1 - i)) cap_11] (K.z (K.t (K.r (K.u ?_)))))
   refine ⟨.inr rfl, rfl, (.slice (some ⟨r_10, 0, none⟩) (i + (xs.length + 1 - i)) cap_11), K.res1 rfl rfl, ?_⟩
   have hN : i + (xs.length + 1 - i) = xs.length + 1 := by omega
   exact ⟨_, _, by rw [hN], c_43, by rw [← ins_cellsB (size := 1) (fun _ => rfl) xs x hi hz_16 rfl, ← hN]; exact o_42, fun j hj => .inr (by obtain ⟨_, h, rfl⟩ := hj; cases h; exact Nat.le_trans (Nat.le_refl _) (by omega))⟩
  ·
   refine K.x ((((xs.length + 1 : Nat) : Int) : Int) > (((cap : Nat) : Int) : Int)) h_9 ?_
   refine K.z (K.t (K.f (K.k (K.t (K.s ?_)))))
   refine K.g (K.q [.slice (some ⟨g, 0, none⟩) xs.length cap, K.iv ((xs.length : Nat) : Int), K.iv 1] ?_)
   refine K.a (K.QR.n64 ((((xs.length : Nat) : Int) : Int) + (1 : Int)) ((xs.length + 1 : Nat) : Int) (by kernel_rfl) (by omega)) ?_
   refine K.a (K.QR.slHi (size := 1) (xs.length + 1) rfl rfl rfl Try.underlying27 (by kernel_rfl) (by omega)) ?_
   refine K.q [.slice (some ⟨g, 0, none⟩) (xs.length + 1) cap] (K.z (K.t (K.s (K.s ?_))))
   refine K.g (K.q [.slice (some ⟨vb, 0, none⟩) 1 cv, .slice (some ⟨g, 0, none⟩) (xs.length + 1) cap, K.iv ((i : Nat) : Int), K.iv 1] ?_)
   refine K.a (K.QR.n64 ((((i : Nat) : Int) : Int) + (1 : Int)) ((i + 1 : Nat) : Int) (by kernel_rfl) (by omega)) ?_
   refine K.a (K.QR.slLo (size := 1) (m := (xs.length + 1)) (k := (xs.length + 1) - (i + 1)) (i + 1) rfl rfl rfl Try.underlying27 (by kernel_rfl) (by omega) rfl) ?_
   refine K.a (QR.overlaps rfl rfl rfl (shift_ltG (by omega)) (ovlU hne how hv (by omega) (by omega))) ?_
   refine K.q [.bool true] (K.z (K.t (K.h (K.s ?_))))
   obtain ⟨us, hus, hwd⟩ := how.wide (xs.length + 1) (by omega) (by omega)
   have hus1 : us.length = 1 := by rw [hus]; omega
   refine K.KW.drawn (fun w => K.Chg (K.Ow (some ⟨g, 0, none⟩)) w0 w) (by kernel_rfl) ?_
   intro w_47 e_48 hs_49
   have c_51 := c_0.no e_48
   have z_52 := c_51.size
   have zz_53 := e_48.size
   have f_54 := how.no e_48
   have f_55 := hv.no e_48
   have f_56 := hwd.no e_48
   have hS_50 : (fun w => K.Chg (K.Ow (some ⟨g, 0, none⟩)) w0 w) w_47 := c_51
   refine K.p 0 rfl (.slice (some ⟨g, 0, none⟩) (xs.length + 1) cap) hS_50 ?_
   refine K.p 1 rfl (K.iv ((i : Nat) : Int)) hS_50 ?_
   refine K.p 2 rfl (K.iv 1) hS_50 ?_
   refine K.m 3 rfl (fun w hS => K.QR.n64 ((((i : Nat) : Int) : Int) + (1 : Int)) ((i + 1 : Nat) : Int) (by kernel_rfl) (by omega)) hS_50 ?_
   refine K.m 4 rfl (fun w hS => K.QR.slLo (size := 1) (m := (xs.length + 1)) (k := (xs.length + 1) - (i + 1)) (i + 1) rfl rfl rfl Try.underlying27 (by kernel_rfl) (by omega) rfl) hS_50 ?_
   refine K.p 5 rfl (.slice (some ⟨g, 0, none⟩) (xs.length + 1) cap) hS_50 ?_
   refine K.b 6 rfl (K.iv ((i : Nat) : Int)) hS_50 ?_
   refine K.c 7 rfl (K.QR.slLo (size := 1) (m := (xs.length + 1)) (k := (xs.length + 1) - i) i rfl rfl rfl Try.underlying27 (by kernel_rfl) (by omega) rfl) hS_50 ?_
   refine K.DW.l 8 rfl (by kernel_rfl) rfl (K.OW.cpV (P := Try.prog) (g := g) (N := (xs.length + 1)) (ys := ((xs.flatMap cU32) ++ us)) (cs := ((xs.flatMap cU32).drop (i * 1))) (size := 1) (i + 1) (xs.length - i) rfl rfl rfl rfl (by omega) (shift_ltG (by omega)) Try.underlying27 (by kernel_rfl) (by show _ = (min _ _ : Nat); omega) f_56 (by omega) (by rw [List.length_drop, K.fl_len (size := 1) (fun _ => rfl), Nat.sub_mul]) ⟨_, shift_ltG (by omega), f_54.cellsAt⟩ (by intro v hv; obtain ⟨y, _, hy⟩ := List.mem_flatMap.1 (List.mem_of_mem_drop hv); exact ins1U y v hy) ?_)
   intro w_57 e_58 hs_59 o_60
   have c_61 := c_51.trans e_58 (fun i hi hy => ⟨_, rfl, hy⟩)
   have f_62 := f_55.chg e_58 (fun k hk hy => by obtain ⟨_, h1, rfl⟩ := hk; cases h1; have h2 : vb = g := hy; exact hne h2)
   have hS_63 : (fun w => K.Chg (K.Ow (some ⟨g, 0, none⟩)) w0 w) w_57 := c_61
   refine ⟨.inl hS_63, ?_⟩
   refine K.DW.done (by kernel_rfl) ?_
   refine K.t (K.s ?_)
   refine K.g (K.q [.slice (some ⟨g, 0, none⟩) (xs.length + 1) cap, K.iv ((i : Nat) : Int)] ?_)
   refine K.a (K.QR.slLo (size := 1) (m := (xs.length + 1)) (k := (xs.length + 1) - i) i rfl rfl rfl Try.underlying27 (by kernel_rfl) (by omega) rfl) ?_
   refine K.q [.slice (some ⟨vb, 0, none⟩) 1 cv] ?_
   refine K.l (K.OW.cpV (P := Try.prog) (g := g) (N := (xs.length + 1)) (ys := (((xs.flatMap cU32) ++ us).take ((i + 1) * 1) ++ (((xs.flatMap cU32).drop (i * 1)) ++ ((xs.flatMap cU32) ++ us).drop ((i + 1 + (xs.length - i)) * 1)))) (cs := ([x].flatMap cU32)) (size := 1) i 1 rfl rfl rfl rfl (by omega) (shift_ltG (by omega)) Try.underlying27 (by kernel_rfl) (by show _ = (min _ _ : Nat); omega) o_60 (by omega) (by rw [K.fl_len (size := 1) (fun _ => rfl)]; rfl) ⟨_, rfl, f_62.cells⟩ (by intro v hv; obtain ⟨y, _, hy⟩ := List.mem_flatMap.1 hv; exact ins1U y v hy) ?_)
   intro w_64 e_65 hs_66 o_67
   have c_68 := c_61.trans e_65 (fun i hi hy => ⟨_, rfl, hy⟩)
   have f_69 := f_62.chg e_65 (fun k hk hy => by obtain ⟨_, h1, rfl⟩ := hk; cases h1; have h2 : vb = g := hy; exact hne h2)
   refine K.z (K.t (K.s ?_))
   refine K.g (K.q [.slice (some ⟨g, 0, none⟩) (xs.length + 1) cap, .slice (some ⟨g, 0, none⟩) (xs.length + 1) cap] (K.z (K.t (K.r (K.u ?_)))))
   refine ⟨.inr rfl, rfl, (.slice (some ⟨g, 0, none⟩) (xs.length + 1) cap), K.res1 rfl rfl, ?_⟩
   exact ⟨_, _, rfl, c_68, by rw [← ins_cellsC (size := 1) (fun _ => rfl) xs x hi hus1 rfl]; exact o_67, fun j hj => .inl (by obtain ⟨_, h, rfl⟩ := hj; cases h; rfl)⟩
set_option maxHeartbeats 1000000 in
set_option maxRecDepth 100000 in
theorem insNP_ok (vb cv base base2 : Nat) (x : PairM) (w0 : World) (hbase : base ≤ w0.heap.size) (hv : K.Own w0 base2 59 2 (some ⟨vb, 0, none⟩) 1 cv ([x].flatMap cPair)) :
  K.KC Try.prog 91 #[.slice none 0 0, K.iv 0, .slice (some ⟨vb, 0, none⟩) 1 cv] w0 (fun v w' => ∃ a' cap', v = .slice a' (0 + 1) cap' ∧ K.Chg K.No w0 w' ∧ K.Own w' base 59 2 a' (0 + 1) cap' ((([x] : List PairM)).flatMap cPair) ∧ (∀ j, K.Ow a' j →  w0.heap.size ≤ j)) := by
 refine K.KC.mk (n := 95) Try.func91 rfl rfl [.slice none 0 0, K.iv 0, .slice (some ⟨vb, 0, none⟩) 1 cv] rfl rfl ?_
 refine K.s ?_
 refine K.g (K.q [.slice none 0 0] (K.z (K.t (K.s ?_))))
 refine K.g (K.q [.slice none 0 0, K.iv 0] ?_)
 refine K.a (K.QR.slLo (size := 2) (m := 0) (k := 0) 0 rfl rfl rfl Try.underlying28 (by kernel_rfl) (Nat.le_refl _) rfl) ?_
 refine K.z (K.t (K.s ?_))
 refine K.g (K.q [.slice (some ⟨vb, 0, none⟩) 1 cv] ?_)
 refine K.a (K.QR.len (P := Try.prog) rfl rfl Try.underlying28) ?_
 refine K.q [K.iv 1] (K.z (K.t (K.s (K.s ?_))))
 refine K.g (K.q [K.iv 1, .bool false] (K.z (K.t (K.f (K.k (K.t (K.s ?_)))))))
 refine K.g (K.q [.slice none 0 0] ?_)
 refine K.a (K.QR.len (P := Try.prog) rfl rfl Try.underlying28) ?_
 refine K.q [K.iv 0] (K.z (K.t (K.s (K.s ?_))))
 refine K.g (K.q [K.iv 0, K.iv 0, .bool true] (K.z (K.t (K.h (K.s ?_)))))
 refine K.g (K.q [.slice none 0 0, .slice (some ⟨vb, 0, none⟩) 1 cv] ?_)
 refine K.l (K.OW.app2 (P := Try.prog) (base := base) (xs := []) (z := .agg #[.int .u32 0, .int .u32 0]) (size := 2) (bytes := 8) rfl ([x].flatMap cPair) rfl rfl (K.Own.nil _ _ _ _) rfl Try.underlying28 (by kernel_rfl) rfl (by decide) (by rfl) (fun j u hj => by have h := (hv).cells j u hj; rw [K.Addr.add_off] at h; exact h) (by intro v hv; obtain ⟨y, _, hy⟩ := List.mem_flatMap.1 hv; exact ins1P y v hy) (by unfold maxLen; omega) (by omega) (by omega) ?_)
 intro a_1 cap_2 w_3 e_4 o_5 hk_6
 have e_4n := K.Chg.ow_none e_4
 have c_7 := e_4n
 have z_8 := c_7.size
 have zz_9 := e_4n.size
 refine K.q [.slice a_1 (0 + 1) cap_2] (K.z (K.t (K.r (K.u ?_))))
 refine ⟨.inr rfl, rfl, (.slice a_1 (0 + 1) cap_2), K.res1 rfl rfl, ?_⟩
 exact ⟨_, _, rfl, c_7, o_5, fun j hj => (hk_6 j hj).elim (fun h => by obtain ⟨_, h, _⟩ := h; cases h) (fun h => by omega)⟩
set_option maxHeartbeats 1000000 in
set_option maxRecDepth 100000 in
theorem insSP_ok (g i cap vb cv base base2 : Nat) (xs : List PairM) (x : PairM) (w0 : World) (hm : xs.length ≤ 1000000000) (hi : i ≤ xs.length) (hne : ¬ vb = g) (hbase : base ≤ w0.heap.size) (how : K.Own w0 base 59 2 (some ⟨g, 0, none⟩) xs.length cap (xs.flatMap cPair)) (hv : K.Own w0 base2 59 2 (some ⟨vb, 0, none⟩) 1 cv ([x].flatMap cPair)) :
  K.KC Try.prog 91 #[.slice (some ⟨g, 0, none⟩) xs.length cap, K.iv ((i : Nat) : Int), .slice (some ⟨vb, 0, none⟩) 1 cv] w0 (fun v w' => ∃ a' cap', v = .slice a' (xs.length + 1) cap' ∧ K.Chg (K.Ow (some ⟨g, 0, none⟩)) w0 w' ∧ K.Own w' base 59 2 a' (xs.length + 1) cap' (((xs.take i ++ x :: xs.drop i : List PairM)).flatMap cPair) ∧ (∀ j, K.Ow a' j → j = g ∨ w0.heap.size ≤ j)) := by
 have hcap := how.le_cap
 have hgl : g < w0.heap.size := how.lt g ⟨_, rfl, rfl⟩
 have hvl : vb < w0.heap.size := hv.lt vb ⟨_, rfl, rfl⟩
 have hti := how.take rfl (fun _ => rfl) i hi (fun h => by cases h)
 refine K.KC.mk (n := 95) Try.func91 rfl rfl [.slice (some ⟨g, 0, none⟩) xs.length cap, K.iv ((i : Nat) : Int), .slice (some ⟨vb, 0, none⟩) 1 cv] rfl rfl ?_
 have c_0 : K.Chg (K.Ow (some ⟨g, 0, none⟩)) w0 w0 := (K.Chg.refl w0).mono fun _ _ h => h.elim
 refine K.s ?_
 refine K.g (K.q [.slice none 0 0] (K.z (K.t (K.s ?_))))
 refine K.g (K.q [.slice (some ⟨g, 0, none⟩) xs.length cap, K.iv ((i : Nat) : Int)] ?_)
 refine K.a (K.QR.slLo (size := 2) (m := xs.length) (k := xs.length - i) i rfl rfl rfl Try.underlying28 (by kernel_rfl) (by omega) rfl) ?_
 refine K.z (K.t (K.s ?_))
 refine K.g (K.q [.slice (some ⟨vb, 0, none⟩) 1 cv] ?_)
 refine K.a (K.QR.len (P := Try.prog) rfl rfl Try.underlying28) ?_
 refine K.q [K.iv 1] (K.z (K.t (K.s (K.s ?_))))
 refine K.g (K.q [K.iv 1, .bool false] (K.z (K.t (K.f (K.k (K.t (K.s ?_)))))))
 refine K.g (K.q [.slice (some ⟨g, 0, none⟩) xs.length cap] ?_)
 refine K.a (K.QR.len (P := Try.prog) rfl rfl Try.underlying28) ?_
 refine K.q [K.iv ((xs.length : Nat) : Int)] (K.z (K.t (K.s (K.s ?_))))
 refine K.g (K.q [K.iv ((i : Nat) : Int), K.iv ((xs.length : Nat) : Int)] ?_)
 by_cases h_1 : (((i : Nat) : Int) : Int) = (((xs.length : Nat) : Int) : Int)
 ·
  refine K.ye (((i : Nat) : Int) : Int) (((xs.length : Nat) : Int) : Int) h_1 ?_
  refine K.z (K.t (K.h (K.s ?_)))
  refine K.g (K.q [.slice (some ⟨g, 0, none⟩) xs.length cap, .slice (some ⟨vb, 0, none⟩) 1 cv] ?_)
  refine K.l (K.OW.app2 (P := Try.prog) (base := base) (xs := xs.flatMap cPair) (z := .agg #[.int .u32 0, .int .u32 0]) (size := 2) (bytes := 8) rfl ([x].flatMap cPair) rfl rfl how rfl Try.underlying28 (by kernel_rfl) rfl (by decide) (by rfl) (fun j u hj => by have h := hv.cells j u hj; rw [K.Addr.add_off] at h; exact h) (by intro v hv; obtain ⟨y, _, hy⟩ := List.mem_flatMap.1 hv; exact ins1P y v hy) (by unfold maxLen; omega) (by omega) (by omega) ?_)
  intro a_2 cap_3 w_4 e_5 o_6 hk_7
  have c_8 := c_0.trans e_5 (fun i hi hy => hy)
  refine K.q [.slice a_2 (xs.length + 1) cap_3] (K.z (K.t (K.r (K.u ?_))))
  refine ⟨.inr rfl, rfl, (.slice a_2 (xs.length + 1) cap_3), K.res1 rfl rfl, ?_⟩
  obtain rfl : i = xs.length := by omega
  exact ⟨_, _, rfl, c_8, by rw [List.take_length, List.drop_length, List.flatMap_append]; exact o_6, fun j hj => (hk_7 j hj).imp (fun h => by obtain ⟨_, h, rfl⟩ := h; cases h; rfl) id⟩
 ·
  refine K.xe (((i : Nat) : Int) : Int) (((xs.length : Nat) : Int) : Int) h_1 ?_
  refine K.z (K.t (K.f (K.k (K.t (K.s (K.s ?_))))))
  refine K.g (K.q [K.iv ((xs.length : Nat) : Int), K.iv 1] ?_)
  refine K.a (K.QR.n64 ((((xs.length : Nat) : Int) : Int) + (1 : Int)) ((xs.length + 1 : Nat) : Int) (by kernel_rfl) (by omega)) ?_
  refine K.q [.slice (some ⟨g, 0, none⟩) xs.length cap] ?_
  refine K.a (K.QR.cap (P := Try.prog) rfl rfl Try.underlying28) ?_
  by_cases h_9 : (((xs.length + 1 : Nat) : Int) : Int) > (((cap : Nat) : Int) : Int)
  ·
   refine K.y ((((xs.length + 1 : Nat) : Int) : Int) > (((cap : Nat) : Int) : Int)) h_9 ?_
   refine K.z (K.t (K.h (K.s ?_)))
   refine K.g (K.q [.slice (some ⟨g, 0, none⟩) xs.length cap, K.iv ((i : Nat) : Int)] ?_)
   refine K.a (K.QR.slHi (size := 2) i rfl rfl rfl Try.underlying28 (by kernel_rfl) (by omega)) ?_
   refine K.q [K.iv ((xs.length : Nat) : Int), K.iv 1] ?_
   refine K.a (K.QR.n64 ((((xs.length : Nat) : Int) : Int) + (1 : Int)) ((xs.length + 1 : Nat) : Int) (by kernel_rfl) (by omega)) ?_
   refine K.q [K.iv ((i : Nat) : Int)] ?_
   refine K.a (K.QR.turn (v := K.iv ((((xs.length + 1 : Nat) : Int) : Int) - (((i : Nat) : Int) : Int))) (K.QR.n64 ((((xs.length + 1 : Nat) : Int) : Int) - (((i : Nat) : Int) : Int)) ((((xs.length + 1 : Nat) : Int) : Int) - (((i : Nat) : Int) : Int)) (by kernel_rfl) (by omega)) (congrArg (Value.int .i64) (show ((((xs.length + 1 : Nat) : Int) : Int) - (((i : Nat) : Int) : Int) : Int) = (((xs.length + 1 - i : Nat) : Int) : Int) from by omega))) ?_
   refine K.l (K.OW.growZ (P := Try.prog) (base := base) (olds := (xs.take i).flatMap cPair) (k := xs.length + 1 - i) (z := .agg #[.int .u32 0, .int .u32 0]) (size := 2) (bytes := 8) rfl rfl rfl rfl Try.underlying28 Try.underlying3 (by kernel_rfl) rfl (by decide) hti (by omega) (by omega) (by unfold maxLen; omega) (by omega) (by omega) ?_)
   intro r_10 cap_11 w_12 zs_13 hr_14 e_15 hz_16 o_17
   have c_18 := c_0.no e_15
   have hc_19 := o_17.le_cap
   have f_20 := how.no e_15
   have f_21 := hv.no e_15
   refine K.q [.slice (some ⟨r_10, 0, none⟩) (i + (xs.length + 1 - i)) cap_11] (K.z (K.t (K.s ?_)))
   refine K.g (K.q [.slice (some ⟨r_10, 0, none⟩) (i + (xs.length + 1 - i)) cap_11, K.iv ((i : Nat) : Int)] ?_)
   refine K.a (K.QR.slLo (size := 2) (m := (i + (xs.length + 1 - i))) (k := (i + (xs.length + 1 - i)) - i) i rfl rfl rfl Try.underlying28 (by kernel_rfl) (by omega) rfl) ?_
   refine K.q [.slice (some ⟨vb, 0, none⟩) 1 cv] ?_
   refine K.l (K.OW.cpV (P := Try.prog) (g := r_10) (N := (i + (xs.length + 1 - i))) (ys := ((xs.take i).flatMap cPair ++ zs_13)) (cs := ([x].flatMap cPair)) (size := 2) i 1 rfl rfl rfl rfl (by omega) (shift_ltG (by omega)) Try.underlying28 (by kernel_rfl) (by show _ = (min _ _ : Nat); omega) o_17 (by omega) (by rw [K.fl_len (size := 2) (fun _ => rfl)]; rfl) ⟨_, rfl, f_21.cells⟩ (by intro v hv; obtain ⟨y, _, hy⟩ := List.mem_flatMap.1 hv; exact ins1P y v hy) ?_)
   intro w_22 e_23 hs_24 o_25
   have c_26 := c_18.own e_23 (by omega)
   have f_27 := f_21.chg e_23 (fun k hk hy => by obtain ⟨_, h1, rfl⟩ := hk; cases h1; have h2 : vb = r_10 := hy; omega)
   have f_28 := f_20.chg e_23 (fun k hk hy => by obtain ⟨_, h1, rfl⟩ := hk; cases h1; have h2 : g = r_10 := hy; omega)
   refine K.z (K.t (K.s ?_))
   refine K.KW.drawn (fun w => K.Chg (K.Ow (some ⟨g, 0, none⟩)) w0 w) (by kernel_rfl) ?_
   intro w_29 e_30 hs_31
   have c_33 := c_26.no e_30
   have z_34 := c_33.size
   have zz_35 := e_30.size
   have f_36 := f_27.no e_30
   have f_37 := f_28.no e_30
   have f_38 := o_25.no e_30
   have hS_32 : (fun w => K.Chg (K.Ow (some ⟨g, 0, none⟩)) w0 w) w_29 := c_33
   refine K.p 0 rfl (.slice (some ⟨r_10, 0, none⟩) (i + (xs.length + 1 - i)) cap_11) hS_32 ?_
   refine K.p 1 rfl (K.iv ((i : Nat) : Int)) hS_32 ?_
   refine K.p 2 rfl (K.iv 1) hS_32 ?_
   refine K.m 3 rfl (fun w hS => K.QR.n64 ((((i : Nat) : Int) : Int) + (1 : Int)) ((i + 1 : Nat) : Int) (by kernel_rfl) (by omega)) hS_32 ?_
   refine K.m 4 rfl (fun w hS => K.QR.slLo (size := 2) (m := (i + (xs.length + 1 - i))) (k := (i + (xs.length + 1 - i)) - (i + 1)) (i + 1) rfl rfl rfl Try.underlying28 (by kernel_rfl) (by omega) rfl) hS_32 ?_
   refine K.p 5 rfl (.slice (some ⟨g, 0, none⟩) xs.length cap) hS_32 ?_
   refine K.b 6 rfl (K.iv ((i : Nat) : Int)) hS_32 ?_
   refine K.c 7 rfl (K.QR.slLo (size := 2) (m := xs.length) (k := xs.length - i) i rfl rfl rfl Try.underlying28 (by kernel_rfl) (by omega) rfl) hS_32 ?_
   refine K.DW.l 8 rfl (by kernel_rfl) rfl (K.OW.cpV (P := Try.prog) (g := r_10) (N := (i + (xs.length + 1 - i))) (ys := (((xs.take i).flatMap cPair ++ zs_13).take (i * 2) ++ ([x].flatMap cPair ++ ((xs.take i).flatMap cPair ++ zs_13).drop ((i + 1) * 2)))) (cs := ((xs.flatMap cPair).drop (i * 2))) (size := 2) (i + 1) (xs.length - i) rfl rfl rfl rfl (by omega) (shift_ltG (by omega)) Try.underlying28 (by kernel_rfl) (by show _ = (min _ _ : Nat); omega) f_38 (by omega) (by rw [List.length_drop, K.fl_len (size := 2) (fun _ => rfl), Nat.sub_mul]) ⟨_, shift_ltG (by omega), f_37.cellsAt⟩ (by intro v hv; obtain ⟨y, _, hy⟩ := List.mem_flatMap.1 (List.mem_of_mem_drop hv); exact ins1P y v hy) ?_)
   intro w_39 e_40 hs_41 o_42
   have c_43 := c_33.own e_40 (by omega)
   have f_44 := f_36.chg e_40 (fun k hk hy => by obtain ⟨_, h1, rfl⟩ := hk; cases h1; have h2 : vb = r_10 := hy; omega)
   have f_45 := f_37.chg e_40 (fun k hk hy => by obtain ⟨_, h1, rfl⟩ := hk; cases h1; have h2 : g = r_10 := hy; omega)
   have hS_46 : (fun w => K.Chg (K.Ow (some ⟨g, 0, none⟩)) w0 w) w_39 := c_43
   refine ⟨.inl hS_46, ?_⟩
   refine K.DW.done (by kernel_rfl) ?_
   refine K.t (K.s ?_)
   refine K.g (K.q [.slice (some ⟨r_10, 0, none⟩) (i + (xs.length + 1 - i)) cap_11, .slice (some ⟨r_10, 0, none⟩) (i + (xs.length + 1 - i)) cap_11] (K.z (K.t (K.r (K.u ?_)))))
   refine ⟨.inr rfl, rfl, (.slice (some ⟨r_10, 0, none⟩) (i + (xs.length + 1 - i)) cap_11), K.res1 rfl rfl, ?_⟩
   have hN : i + (xs.length + 1 - i) = xs.length + 1 := by omega
   exact ⟨_, _, by rw [hN], c_43, by rw [← ins_cellsB (size := 2) (fun _ => rfl) xs x hi hz_16 rfl, ← hN]; exact o_42, fun j hj => .inr (by obtain ⟨_, h, rfl⟩ := hj; cases h; exact Nat.le_trans (Nat.le_refl _) (by omega))⟩
  ·
   refine K.x ((((xs.length + 1 : Nat) : Int) : Int) > (((cap : Nat) : Int) : Int)) h_9 ?_
   refine K.z (K.t (K.f (K.k (K.t (K.s ?_)))))
   refine K.g (K.q [.slice (some ⟨g, 0, none⟩) xs.length cap, K.iv ((xs.length : Nat) : Int), K.iv 1] ?_)
   refine K.a (K.QR.n64 ((((xs.length : Nat) : Int) : Int) + (1 : Int)) ((xs.length + 1 : Nat) : Int) (by kernel_rfl) (by omega)) ?_
   refine K.a (K.QR.slHi (size := 2) (xs.length + 1) rfl rfl rfl Try.underlying28 (by kernel_rfl) (by omega)) ?_
   refine K.q [.slice (some ⟨g, 0, none⟩) (xs.length + 1) cap] (K.z (K.t (K.s (K.s ?_))))
   refine K.g (K.q [.slice (some ⟨vb, 0, none⟩) 1 cv, .slice (some ⟨g, 0, none⟩) (xs.length + 1) cap, K.iv ((i : Nat) : Int), K.iv 1] ?_)
   refine K.a (K.QR.n64 ((((i : Nat) : Int) : Int) + (1 : Int)) ((i + 1 : Nat) : Int) (by kernel_rfl) (by omega)) ?_
   refine K.a (K.QR.slLo (size := 2) (m := (xs.length + 1)) (k := (xs.length + 1) - (i + 1)) (i + 1) rfl rfl rfl Try.underlying28 (by kernel_rfl) (by omega) rfl) ?_
   refine K.a (QR.overlaps rfl rfl rfl (shift_ltG (by omega)) (ovlP hne how hv (by omega) (by omega))) ?_
   refine K.q [.bool true] (K.z (K.t (K.h (K.s ?_))))
   obtain ⟨us, hus, hwd⟩ := how.wide (xs.length + 1) (by omega) (by omega)
   have hus1 : us.length = 2 := by rw [hus]; omega
   refine K.KW.drawn (fun w => K.Chg (K.Ow (some ⟨g, 0, none⟩)) w0 w) (by kernel_rfl) ?_
   intro w_47 e_48 hs_49
   have c_51 := c_0.no e_48
   have z_52 := c_51.size
   have zz_53 := e_48.size
   have f_54 := how.no e_48
   have f_55 := hv.no e_48
   have f_56 := hwd.no e_48
   have hS_50 : (fun w => K.Chg (K.Ow (some ⟨g, 0, none⟩)) w0 w) w_47 := c_51
   refine K.p 0 rfl (.slice (some ⟨g, 0, none⟩) (xs.length + 1) cap) hS_50 ?_
   refine K.p 1 rfl (K.iv ((i : Nat) : Int)) hS_50 ?_
   refine K.p 2 rfl (K.iv 1) hS_50 ?_
   refine K.m 3 rfl (fun w hS => K.QR.n64 ((((i : Nat) : Int) : Int) + (1 : Int)) ((i + 1 : Nat) : Int) (by kernel_rfl) (by omega)) hS_50 ?_
   refine K.m 4 rfl (fun w hS => K.QR.slLo (size := 2) (m := (xs.length + 1)) (k := (xs.length + 1) - (i + 1)) (i + 1) rfl rfl rfl Try.underlying28 (by kernel_rfl) (by omega) rfl) hS_50 ?_
   refine K.p 5 rfl (.slice (some ⟨g, 0, none⟩) (xs.length + 1) cap) hS_50 ?_
   refine K.b 6 rfl (K.iv ((i : Nat) : Int)) hS_50 ?_
   refine K.c 7 rfl (K.QR.slLo (size := 2) (m := (xs.length + 1)) (k := (xs.length + 1) - i) i rfl rfl rfl Try.underlying28 (by kernel_rfl) (by omega) rfl) hS_50 ?_
   refine K.DW.l 8 rfl (by kernel_rfl) rfl (K.OW.cpV (P := Try.prog) (g := g) (N := (xs.length + 1)) (ys := ((xs.flatMap cPair) ++ us)) (cs := ((xs.flatMap cPair).drop (i * 2))) (size := 2) (i + 1) (xs.length - i) rfl rfl rfl rfl (by omega) (shift_ltG (by omega)) Try.underlying28 (by kernel_rfl) (by show _ = (min _ _ : Nat); omega) f_56 (by omega) (by rw [List.length_drop, K.fl_len (size := 2) (fun _ => rfl), Nat.sub_mul]) ⟨_, shift_ltG (by omega), f_54.cellsAt⟩ (by intro v hv; obtain ⟨y, _, hy⟩ := List.mem_flatMap.1 (List.mem_of_mem_drop hv); exact ins1P y v hy) ?_)
   intro w_57 e_58 hs_59 o_60
   have c_61 := c_51.trans e_58 (fun i hi hy => ⟨_, rfl, hy⟩)
   have f_62 := f_55.chg e_58 (fun k hk hy => by obtain ⟨_, h1, rfl⟩ := hk; cases h1; have h2 : vb = g := hy; exact hne h2)
   have hS_63 : (fun w => K.Chg (K.Ow (some ⟨g, 0, none⟩)) w0 w) w_57 := c_61
   refine ⟨.inl hS_63, ?_⟩
   refine K.DW.done (by kernel_rfl) ?_
   refine K.t (K.s ?_)
   refine K.g (K.q [.slice (some ⟨g, 0, none⟩) (xs.length + 1) cap, K.iv ((i : Nat) : Int)] ?_)
   refine K.a (K.QR.slLo (size := 2) (m := (xs.length + 1)) (k := (xs.length + 1) - i) i rfl rfl rfl Try.underlying28 (by kernel_rfl) (by omega) rfl) ?_
   refine K.q [.slice (some ⟨vb, 0, none⟩) 1 cv] ?_
   refine K.l (K.OW.cpV (P := Try.prog) (g := g) (N := (xs.length + 1)) (ys := (((xs.flatMap cPair) ++ us).take ((i + 1) * 2) ++ (((xs.flatMap cPair).drop (i * 2)) ++ ((xs.flatMap cPair) ++ us).drop ((i + 1 + (xs.length - i)) * 2)))) (cs := ([x].flatMap cPair)) (size := 2) i 1 rfl rfl rfl rfl (by omega) (shift_ltG (by omega)) Try.underlying28 (by kernel_rfl) (by show _ = (min _ _ : Nat); omega) o_60 (by omega) (by rw [K.fl_len (size := 2) (fun _ => rfl)]; rfl) ⟨_, rfl, f_62.cells⟩ (by intro v hv; obtain ⟨y, _, hy⟩ := List.mem_flatMap.1 hv; exact ins1P y v hy) ?_)
   intro w_64 e_65 hs_66 o_67
   have c_68 := c_61.trans e_65 (fun i hi hy => ⟨_, rfl, hy⟩)
   have f_69 := f_62.chg e_65 (fun k hk hy => by obtain ⟨_, h1, rfl⟩ := hk; cases h1; have h2 : vb = g := hy; exact hne h2)
   refine K.z (K.t (K.s ?_))
   refine K.g (K.q [.slice (some ⟨g, 0, none⟩) (xs.length + 1) cap, .slice (some ⟨g, 0, none⟩) (xs.length + 1) cap] (K.z (K.t (K.r (K.u ?_)))))
   refine ⟨.inr rfl, rfl, (.slice (some ⟨g, 0, none⟩) (xs.length + 1) cap), K.res1 rfl rfl, ?_⟩
   exact ⟨_, _, rfl, c_68, by rw [← ins_cellsC (size := 2) (fun _ => rfl) xs x hi hus1 rfl]; exact o_67, fun j hj => .inl (by obtain ⟨_, h, rfl⟩ := hj; cases h; rfl)⟩
end Go.Proofs.Ytnehocjmgnhhhaa
