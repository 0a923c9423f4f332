import Derived.Test.YtnehocjmgnhhhaaFmp
import Derived.Test.YtnehocjmgnhhhaaKn
/- The document's model: keys, pairs. -/
namespace Go.Proofs.Ytnehocjmgnhhhaa
open Go.RowKit
set_option linter.unusedVariables false
attribute [local irreducible] K.KW K.RW K.DW K.OW K.QR K.KC
section
variable {α : Type} {f : α → Int} {k : Int} {z x : α} {o : List α}
theorem kstep_de (h : f x = k) : kstep f k z (o, true) x = (o, true) := by simp [kstep, h]
theorem kstep_dn (h : ¬ f x = k) : kstep f k z (o, true) x = (o ++ [x], true) := by simp [kstep, h]
theorem kstep_gt (h : f x > k) : kstep f k z (o, false) x = (o ++ [z] ++ [x], true) := by
 have h2 : k < f x := h
 have h3 : ¬ f x = k := by omega
 simp [kstep, h2, h3]
theorem kstep_eq (h : f x = k) : kstep f k z (o, false) x = (o, false) := by
 have h2 : ¬ k < f x := by omega
 unfold kstep
 rw [if_neg (fun h => h2 h.2), if_pos h, decide_eq_false h2]; simp
theorem kstep_lt (h : ¬ f x > k) (h2 : ¬ f x = k) : kstep f k z (o, false) x = (o ++ [x], false) := by
 have h2' : ¬ k < f x := by omega
 unfold kstep
 rw [if_neg (fun h => h2' h.2), if_neg h2, decide_eq_false h2']; simp
theorem keysF_next {d : α} {b : Bool} {xs : List α} {j : Nat} {fl : Bool} {q : List α × Bool} (h : keysF f k z b (xs.take j) = (o, fl)) (hj : j < xs.length) (e : kstep f k z (o, fl) (xs.getD j d) = q) : keysF f k z b (xs.take (j + 1)) = q := by
 rw [keysF_succ (d := d) hj, h]; exact e
theorem keysR_of {b : Bool} {xs : List α} {j : Nat} {fl : Bool} (h : keysF f k z b (xs.take j) = (o, fl)) (hj : xs.length ≤ j) : keysR f k z b xs = if fl = true then o else o ++ [z] := by
 rw [List.take_of_length_le hj] at h
 unfold keysR; rw [h]
end
def idI (x : Int) : Int := x
set_option maxHeartbeats 1000000 in
set_option maxRecDepth 100000 in
theorem keysT_ok (w0 : World) (a : Option Addr) (cap : Nat) (xs : List Int) (k : Int) (hm : xs.length ≤ 1000000) (gx : K.Cs) (hx : ∀ w, K.Sat w0 [gx] w → K.RowE w a xs.length 1 (fun i => cU32 (xs.getD i 0))) :
  K.GC Try.prog w0 48 #[.slice a xs.length cap, .int .u32 k, .bool true] [gx] (fun v post => ∃ r c l2, v = .slice r (keysR idI k k true xs).length c ∧ post = [gx, l2] ∧ K.OwnG l2 45 1 r (keysR idI k k true xs).length c ((keysR idI k k true xs).flatMap cU32)) := by
 refine K.GC.mk (n := 52) Try.func48 rfl rfl [.slice a xs.length cap, .int .u32 k, .bool true] rfl rfl ?_
 intro fr w hS
 replace hS : K.Sat w0 [gx, fr] w := hS
 refine K.s (K.g (K.q [.slice none 0 0] (K.z (K.t (K.s (K.g (K.q [.slice none 0 0] (K.z (K.t (K.s (K.g (K.q [.bool true, .bool false, .bool false] (K.z (K.t ?_))))))))))))))
 refine K.s (K.s (K.g (K.q [K.iv 0] (K.z (K.t ?_)))))
 refine K.KW.block ?_
 obtain ⟨z_1, hz_2⟩ : ∃ z : K.Cs, z = [] := ⟨_, rfl⟩
 replace hS : K.Sat w0 [z_1, gx, fr] w := hS.of (by simp [hz_2])
 have o_3 : K.OwnG z_1 45 1 none 0 0 [] := by rw [hz_2]; exact K.OwnG.nil _ _
 refine K.KW.loop (fun m_ F_ w_ => ∃ (j : Nat) (o : List Int) (f : Bool) (q1 : Option Addr) (c1 : Nat) (o1 : K.Cs), m_ = xs.length - j ∧ K.Sl F_ [(0, .slice a xs.length cap), (1, .int .u32 k), (2, .bool true), (6, .slice none 0 0), (7, .slice q1 o.length c1), (8, .bool f), (9, K.iv ((j : Nat) : Int)), (52, undef)] ∧ j ≤ xs.length ∧ keysF idI k k true (xs.take j) = (o, f) ∧ o.length ≤ 2 * j ∧ K.OwnG o1 45 1 q1 o.length c1 ((o).flatMap cU32) ∧ K.Sat w0 [o1, gx, fr] w_) ((fun (j : Nat) (o : List Int) (f : Bool) (q1 : Option Addr) (c1 : Nat) => xs.length - j) 0 [] false none 0) ?_ ?_
 ·
  exact ⟨0, [], false, none, 0, z_1, rfl, ⟨by rfl, by rfl, by rfl, by rfl, by rfl, by rfl, by rfl, by rfl, trivial⟩, (by omega), (rfl), (by exact Nat.le_refl 0), o_3, hS.pick [0, 1, 2]⟩
 ·
  clear hS
  intro m_4 F_5 w hI
  obtain ⟨j, o, f, q1, c1, o1, rfl, sl_6, p_7, hkf, p_8, x_9, hS⟩ := hI
  rw [← K.Sl.puts sl_6]; clear sl_6
  cases f
  ·
   refine K.s (K.s (K.g (K.q [K.iv ((j : Nat) : Int), .slice a xs.length cap] ?_)))
   refine K.a (K.QR.len (P := Try.prog) rfl rfl Try.underlying27) ?_
   by_cases h_10 : (((j : Nat) : Int) : Int) < (((xs.length : Nat) : Int) : Int)
   ·
    refine K.y ((((j : Nat) : Int) : Int) < (((xs.length : Nat) : Int) : Int)) h_10 ?_
    refine K.z (K.t (K.h (K.k (K.t (K.s ?_)))))
    refine K.KW.block ?_
    refine K.s (K.s ?_)
    obtain ⟨b_11, of_12, rfl, _⟩ := (hx _ (hS.pick [1])).at_ (by omega)
    refine K.g (K.q [.bool false, .bool true, .bool true, .slice (some ⟨b_11, of_12, none⟩) xs.length cap, K.iv ((j : Nat) : Int)] ?_)
    refine K.a (K.QR.ix (of_12 + j * 1) 1 rfl rfl rfl Try.underlying27 (by kernel_rfl) (by omega) (by first | (simp; done) | omega | (simp; omega))) ?_
    refine K.d (.int .u32 (xs.getD j 0)) ((hx _ (hS.pick [1])).ld j (by omega) 0 _ rfl) ?_
    refine K.q [.int .u32 k] ?_
    by_cases h_13 : (xs.getD j 0 : Int) > (k : Int)
    ·
     refine K.y ((xs.getD j 0 : Int) > (k : Int)) h_13 ?_
     refine K.q [.bool true] (K.z (K.t (K.h (K.s (K.g (K.q [.slice q1 o.length c1, .int .u32 k] ?_))))))
     refine K.l (K.OW.gbs [(0, .int .u32 k)] [.int .u32 k] hS (fun w => K.bs_run (P := Try.prog) w 27 45 1 _ _ Try.underlying27 (by kernel_rfl)) ?_)
     clear hS; intro w r_14 g_15 hg_16 hS
     refine K.l (K.OW.gapp (P := Try.prog) (xs := (o).flatMap cU32) (z := .int .u32 0) (size := 1) (bytes := 4) 1 [.int .u32 k] hS x_9 ?_ (fun j u hj => (by rw [Nat.zero_add]; exact (hS.blk 0 rfl hg_16).cell hj)) (K.one_cells (by rfl)) (by rfl) Try.underlying27 (by kernel_rfl) rfl (by decide) (by unfold maxLen; omega) (by omega))
     clear hS; intro a_17 cap_18 w l_19 o_20 hS
     have ln_21 : ((o ++ [(k : Int)])).length = o.length + 1 := by rw [List.length_append]; rfl
     have o_20c := K.OwnG.cast (xs' := ((o ++ [(k : Int)])).flatMap cU32) o_20 rfl (K.fl_snoc cU32 o (k : Int) rfl)
     replace hS : K.Sat w0 [g_15, l_19, gx, fr] w := hS
     refine K.q [.slice a_17 (o.length + 1) cap_18] (K.z (K.t (K.g (K.q [.bool true] (K.z (K.t (K.s (K.g (K.q [.slice (some ⟨b_11, of_12, none⟩) xs.length cap, K.iv ((j : Nat) : Int)] ?_)))))))))
     refine K.a (K.QR.ix (of_12 + j * 1) 1 rfl rfl rfl Try.underlying27 (by kernel_rfl) (by omega) (by first | (simp; done) | omega | (simp; omega))) ?_
     refine K.d (.int .u32 (xs.getD j 0)) ((hx _ (hS.pick [2])).ld j (by omega) 0 _ rfl) ?_
     refine K.q [.int .u32 k] ?_
     by_cases h_22 : (xs.getD j 0 : Int) = (k : Int)
     ·
      refine K.xn (xs.getD j 0 : Int) (k : Int) h_22 ?_
      refine K.z (K.t (K.f (K.k ?_)))
      refine K.blk_normal ?_
      refine K.t (K.g (K.q [K.iv ((j : Nat) : Int)] ?_))
      refine K.a (K.QR.n64 ((((j : Nat) : Int) : Int) + (1 : Int)) ((j + 1 : Nat) : Int) (by kernel_rfl) (by omega)) ?_
      refine K.q [K.iv ((j + 1 : Nat) : Int)] (K.z (K.t ?_))
      refine ⟨_, ?_, j + 1, (o ++ [(k : Int)]), true, a_17, cap_18, l_19, rfl, ⟨by rfl, by rfl, by rfl, by rfl, congrArg (fun m_ => Value.slice a_17 m_ cap_18) (by first | rfl | omega : o.length + 1 = ((o ++ [(k : Int)])).length), by rfl, by rfl, by rfl, trivial⟩, (by omega), (by exfalso; omega), (by omega), (by first | exact o_20c | (have h := o_20c; simpa using h)), hS.pick [1, 2, 3]⟩
      omega
     ·
      refine K.yn (xs.getD j 0 : Int) (k : Int) h_22 ?_
      refine K.z (K.t (K.h (K.g (K.q [.slice a_17 (o.length + 1) cap_18, .slice (some ⟨b_11, of_12, none⟩) xs.length cap, K.iv ((j : Nat) : Int)] ?_))))
      refine K.a (K.QR.ix (of_12 + j * 1) 1 rfl rfl rfl Try.underlying27 (by kernel_rfl) (by omega) (by first | (simp; done) | omega | (simp; omega))) ?_
      refine K.d (.int .u32 (xs.getD j 0)) ((hx _ (hS.pick [2])).ld j (by omega) 0 _ rfl) ?_
      refine K.l (K.OW.gbs [(0, .int .u32 (xs.getD j 0))] [.int .u32 (xs.getD j 0)] hS (fun w => K.bs_run (P := Try.prog) w 27 45 1 _ _ Try.underlying27 (by kernel_rfl)) ?_)
      clear hS; intro w r_23 g_24 hg_25 hS
      refine K.l (K.OW.gapp (P := Try.prog) (xs := ((o ++ [(k : Int)])).flatMap cU32) (z := .int .u32 0) (size := 1) (bytes := 4) 2 [.int .u32 (xs.getD j 0)] hS o_20c ?_ (fun j u hj => (by rw [Nat.zero_add]; exact (hS.blk 0 rfl hg_25).cell hj)) (K.one_cells (by rfl)) (by rfl) Try.underlying27 (by kernel_rfl) rfl (by decide) (by unfold maxLen; omega) (by omega))
      clear hS; intro a_26 cap_27 w l_28 o_29 hS
      have ln_30 : (((o ++ [(k : Int)]) ++ [(xs.getD j 0 : Int)])).length = o.length + 1 + 1 := by rw [List.length_append, ln_21]; rfl
      have o_29c := K.OwnG.cast (xs' := (((o ++ [(k : Int)]) ++ [(xs.getD j 0 : Int)])).flatMap cU32) o_29 rfl (K.fl_snoc cU32 (o ++ [(k : Int)]) (xs.getD j 0 : Int) rfl)
      replace hS : K.Sat w0 [g_24, g_15, l_28, gx, fr] w := hS
      refine K.q [.slice a_26 (o.length + 1 + 1) cap_27] (K.z ?_)
      refine K.blk_normal ?_
      refine K.t (K.g (K.q [K.iv ((j : Nat) : Int)] ?_))
      refine K.a (K.QR.n64 ((((j : Nat) : Int) : Int) + (1 : Int)) ((j + 1 : Nat) : Int) (by kernel_rfl) (by omega)) ?_
      refine K.q [K.iv ((j + 1 : Nat) : Int)] (K.z (K.t ?_))
      refine ⟨_, ?_, j + 1, ((o ++ [(k : Int)]) ++ [(xs.getD j 0 : Int)]), true, a_26, cap_27, l_28, rfl, ⟨by rfl, by rfl, by rfl, by rfl, congrArg (fun m_ => Value.slice a_26 m_ cap_27) (by first | rfl | omega : o.length + 1 + 1 = (((o ++ [(k : Int)]) ++ [(xs.getD j 0 : Int)])).length), by rfl, by rfl, by rfl, trivial⟩, (by omega), (keysF_next (d := 0) hkf (by omega) (kstep_gt (by assumption))), (by omega), (by first | exact o_29c | (have h := o_29c; simpa using h)), hS.pick [2, 3, 4]⟩
      omega
    ·
     refine K.x ((xs.getD j 0 : Int) > (k : Int)) h_13 ?_
     refine K.q [.bool false] (K.z (K.t (K.f (K.k (K.t (K.s (K.g (K.q [.slice (some ⟨b_11, of_12, none⟩) xs.length cap, K.iv ((j : Nat) : Int)] ?_))))))))
     refine K.a (K.QR.ix (of_12 + j * 1) 1 rfl rfl rfl Try.underlying27 (by kernel_rfl) (by omega) (by first | (simp; done) | omega | (simp; omega))) ?_
     refine K.d (.int .u32 (xs.getD j 0)) ((hx _ (hS.pick [1])).ld j (by omega) 0 _ rfl) ?_
     refine K.q [.int .u32 k] ?_
     by_cases h_31 : (xs.getD j 0 : Int) = (k : Int)
     ·
      refine K.xn (xs.getD j 0 : Int) (k : Int) h_31 ?_
      refine K.z (K.t (K.f (K.k ?_)))
      refine K.blk_normal ?_
      refine K.t (K.g (K.q [K.iv ((j : Nat) : Int)] ?_))
      refine K.a (K.QR.n64 ((((j : Nat) : Int) : Int) + (1 : Int)) ((j + 1 : Nat) : Int) (by kernel_rfl) (by omega)) ?_
      refine K.q [K.iv ((j + 1 : Nat) : Int)] (K.z (K.t ?_))
      refine ⟨_, ?_, j + 1, o, false, q1, c1, o1, rfl, ⟨by rfl, by rfl, by rfl, by rfl, congrArg (fun m_ => Value.slice q1 m_ c1) (by first | rfl | omega : o.length = (o).length), by rfl, by rfl, by rfl, trivial⟩, (by omega), (keysF_next (d := 0) hkf (by omega) (kstep_eq (by assumption))), (by omega), (by first | exact x_9 | (have h := x_9; simpa using h)), hS.pick [0, 1, 2]⟩
      omega
     ·
      refine K.yn (xs.getD j 0 : Int) (k : Int) h_31 ?_
      refine K.z (K.t (K.h (K.g (K.q [.slice q1 o.length c1, .slice (some ⟨b_11, of_12, none⟩) xs.length cap, K.iv ((j : Nat) : Int)] ?_))))
      refine K.a (K.QR.ix (of_12 + j * 1) 1 rfl rfl rfl Try.underlying27 (by kernel_rfl) (by omega) (by first | (simp; done) | omega | (simp; omega))) ?_
      refine K.d (.int .u32 (xs.getD j 0)) ((hx _ (hS.pick [1])).ld j (by omega) 0 _ rfl) ?_
      refine K.l (K.OW.gbs [(0, .int .u32 (xs.getD j 0))] [.int .u32 (xs.getD j 0)] hS (fun w => K.bs_run (P := Try.prog) w 27 45 1 _ _ Try.underlying27 (by kernel_rfl)) ?_)
      clear hS; intro w r_32 g_33 hg_34 hS
      refine K.l (K.OW.gapp (P := Try.prog) (xs := (o).flatMap cU32) (z := .int .u32 0) (size := 1) (bytes := 4) 1 [.int .u32 (xs.getD j 0)] hS x_9 ?_ (fun j u hj => (by rw [Nat.zero_add]; exact (hS.blk 0 rfl hg_34).cell hj)) (K.one_cells (by rfl)) (by rfl) Try.underlying27 (by kernel_rfl) rfl (by decide) (by unfold maxLen; omega) (by omega))
      clear hS; intro a_35 cap_36 w l_37 o_38 hS
      have ln_39 : ((o ++ [(xs.getD j 0 : Int)])).length = o.length + 1 := by rw [List.length_append]; rfl
      have o_38c := K.OwnG.cast (xs' := ((o ++ [(xs.getD j 0 : Int)])).flatMap cU32) o_38 rfl (K.fl_snoc cU32 o (xs.getD j 0 : Int) rfl)
      replace hS : K.Sat w0 [g_33, l_37, gx, fr] w := hS
      refine K.q [.slice a_35 (o.length + 1) cap_36] (K.z ?_)
      refine K.blk_normal ?_
      refine K.t (K.g (K.q [K.iv ((j : Nat) : Int)] ?_))
      refine K.a (K.QR.n64 ((((j : Nat) : Int) : Int) + (1 : Int)) ((j + 1 : Nat) : Int) (by kernel_rfl) (by omega)) ?_
      refine K.q [K.iv ((j + 1 : Nat) : Int)] (K.z (K.t ?_))
      refine ⟨_, ?_, j + 1, (o ++ [(xs.getD j 0 : Int)]), false, a_35, cap_36, l_37, rfl, ⟨by rfl, by rfl, by rfl, by rfl, congrArg (fun m_ => Value.slice a_35 m_ cap_36) (by first | rfl | omega : o.length + 1 = ((o ++ [(xs.getD j 0 : Int)])).length), by rfl, by rfl, by rfl, trivial⟩, (by omega), (keysF_next (d := 0) hkf (by omega) (kstep_lt (by assumption) (by assumption))), (by omega), (by first | exact o_38c | (have h := o_38c; simpa using h)), hS.pick [1, 2, 3]⟩
      omega
   ·
    refine K.x ((((j : Nat) : Int) : Int) < (((xs.length : Nat) : Int) : Int)) h_10 ?_
    refine K.z (K.t (K.f ?_))
    refine K.KW.exit ?_
    refine K.thn_exit ?_
    refine K.thn_exit ?_
    refine K.blk_hit ?_
    refine K.t (K.s (K.s (K.g (K.q [.bool false, .bool true] (K.z (K.t (K.h (K.g (K.q [.slice q1 o.length c1, .int .u32 k] ?_)))))))))
    refine K.l (K.OW.gbs [(0, .int .u32 k)] [.int .u32 k] hS (fun w => K.bs_run (P := Try.prog) w 27 45 1 _ _ Try.underlying27 (by kernel_rfl)) ?_)
    clear hS; intro w r_40 g_41 hg_42 hS
    refine K.l (K.OW.gapp (P := Try.prog) (xs := (o).flatMap cU32) (z := .int .u32 0) (size := 1) (bytes := 4) 1 [.int .u32 k] hS x_9 ?_ (fun j u hj => (by rw [Nat.zero_add]; exact (hS.blk 0 rfl hg_42).cell hj)) (K.one_cells (by rfl)) (by rfl) Try.underlying27 (by kernel_rfl) rfl (by decide) (by unfold maxLen; omega) (by omega))
    clear hS; intro a_43 cap_44 w l_45 o_46 hS
    have ln_47 : ((o ++ [(k : Int)])).length = o.length + 1 := by rw [List.length_append]; rfl
    have o_46c := K.OwnG.cast (xs' := ((o ++ [(k : Int)])).flatMap cU32) o_46 rfl (K.fl_snoc cU32 o (k : Int) rfl)
    replace hS : K.Sat w0 [g_41, l_45, gx, fr] w := hS
    refine K.q [.slice a_43 (o.length + 1) cap_44] (K.z (K.t (K.s (K.g (K.q [.slice a_43 (o.length + 1) cap_44, .slice a_43 (o.length + 1) cap_44] (K.z (K.t (K.r ?_))))))))
    have e : keysR idI k k true xs = (o ++ [(k : Int)]) := by rw [keysR_of hkf (by omega)]; rfl
    refine ⟨.inr rfl, rfl, (.slice a_43 (o.length + 1) cap_44), K.res1 rfl rfl, [gx, l_45], ?_, hS.pick [2, 1, 3]⟩
    exact ⟨a_43, cap_44, _, congrArg (fun m_ => Value.slice a_43 m_ cap_44) (by rw [e]; try omega : o.length + 1 = (keysR idI k k true xs).length), rfl, by rw [e]; first | exact o_46c | (have h := o_46c; simpa using h)⟩
  ·
   refine K.s (K.s (K.g (K.q [K.iv ((j : Nat) : Int), .slice a xs.length cap] ?_)))
   refine K.a (K.QR.len (P := Try.prog) rfl rfl Try.underlying27) ?_
   by_cases h_48 : (((j : Nat) : Int) : Int) < (((xs.length : Nat) : Int) : Int)
   ·
    refine K.y ((((j : Nat) : Int) : Int) < (((xs.length : Nat) : Int) : Int)) h_48 ?_
    refine K.z (K.t (K.h (K.k (K.t (K.s ?_)))))
    refine K.KW.block ?_
    refine K.s (K.s ?_)
    obtain ⟨b_49, of_50, rfl, _⟩ := (hx _ (hS.pick [1])).at_ (by omega)
    refine K.g (K.q [.bool true, .bool false, .bool false] (K.n_ (K.n_ (K.n_ (K.n_ (K.n_ (K.n_ (K.q [.bool false] (K.z (K.t (K.f (K.k (K.t (K.s ?_))))))))))))))
    refine K.g (K.q [.slice (some ⟨b_49, of_50, none⟩) xs.length cap, K.iv ((j : Nat) : Int)] ?_)
    refine K.a (K.QR.ix (of_50 + j * 1) 1 rfl rfl rfl Try.underlying27 (by kernel_rfl) (by omega) (by first | (simp; done) | omega | (simp; omega))) ?_
    refine K.d (.int .u32 (xs.getD j 0)) ((hx _ (hS.pick [1])).ld j (by omega) 0 _ rfl) ?_
    refine K.q [.int .u32 k] ?_
    by_cases h_51 : (xs.getD j 0 : Int) = (k : Int)
    ·
     refine K.xn (xs.getD j 0 : Int) (k : Int) h_51 ?_
     refine K.z (K.t (K.f (K.k ?_)))
     refine K.blk_normal ?_
     refine K.t (K.g (K.q [K.iv ((j : Nat) : Int)] ?_))
     refine K.a (K.QR.n64 ((((j : Nat) : Int) : Int) + (1 : Int)) ((j + 1 : Nat) : Int) (by kernel_rfl) (by omega)) ?_
     refine K.q [K.iv ((j + 1 : Nat) : Int)] (K.z (K.t ?_))
     refine ⟨_, ?_, j + 1, o, true, q1, c1, o1, rfl, ⟨by rfl, by rfl, by rfl, by rfl, congrArg (fun m_ => Value.slice q1 m_ c1) (by first | rfl | omega : o.length = (o).length), by rfl, by rfl, by rfl, trivial⟩, (by omega), (keysF_next (d := 0) hkf (by omega) (kstep_de (by assumption))), (by omega), (by first | exact x_9 | (have h := x_9; simpa using h)), hS.pick [0, 1, 2]⟩
     omega
    ·
     refine K.yn (xs.getD j 0 : Int) (k : Int) h_51 ?_
     refine K.z (K.t (K.h (K.g (K.q [.slice q1 o.length c1, .slice (some ⟨b_49, of_50, none⟩) xs.length cap, K.iv ((j : Nat) : Int)] ?_))))
     refine K.a (K.QR.ix (of_50 + j * 1) 1 rfl rfl rfl Try.underlying27 (by kernel_rfl) (by omega) (by first | (simp; done) | omega | (simp; omega))) ?_
     refine K.d (.int .u32 (xs.getD j 0)) ((hx _ (hS.pick [1])).ld j (by omega) 0 _ rfl) ?_
     refine K.l (K.OW.gbs [(0, .int .u32 (xs.getD j 0))] [.int .u32 (xs.getD j 0)] hS (fun w => K.bs_run (P := Try.prog) w 27 45 1 _ _ Try.underlying27 (by kernel_rfl)) ?_)
     clear hS; intro w r_52 g_53 hg_54 hS
     refine K.l (K.OW.gapp (P := Try.prog) (xs := (o).flatMap cU32) (z := .int .u32 0) (size := 1) (bytes := 4) 1 [.int .u32 (xs.getD j 0)] hS x_9 ?_ (fun j u hj => (by rw [Nat.zero_add]; exact (hS.blk 0 rfl hg_54).cell hj)) (K.one_cells (by rfl)) (by rfl) Try.underlying27 (by kernel_rfl) rfl (by decide) (by unfold maxLen; omega) (by omega))
     clear hS; intro a_55 cap_56 w l_57 o_58 hS
     have ln_59 : ((o ++ [(xs.getD j 0 : Int)])).length = o.length + 1 := by rw [List.length_append]; rfl
     have o_58c := K.OwnG.cast (xs' := ((o ++ [(xs.getD j 0 : Int)])).flatMap cU32) o_58 rfl (K.fl_snoc cU32 o (xs.getD j 0 : Int) rfl)
     replace hS : K.Sat w0 [g_53, l_57, gx, fr] w := hS
     refine K.q [.slice a_55 (o.length + 1) cap_56] (K.z ?_)
     refine K.blk_normal ?_
     refine K.t (K.g (K.q [K.iv ((j : Nat) : Int)] ?_))
     refine K.a (K.QR.n64 ((((j : Nat) : Int) : Int) + (1 : Int)) ((j + 1 : Nat) : Int) (by kernel_rfl) (by omega)) ?_
     refine K.q [K.iv ((j + 1 : Nat) : Int)] (K.z (K.t ?_))
     refine ⟨_, ?_, j + 1, (o ++ [(xs.getD j 0 : Int)]), true, a_55, cap_56, l_57, rfl, ⟨by rfl, by rfl, by rfl, by rfl, congrArg (fun m_ => Value.slice a_55 m_ cap_56) (by first | rfl | omega : o.length + 1 = ((o ++ [(xs.getD j 0 : Int)])).length), by rfl, by rfl, by rfl, trivial⟩, (by omega), (keysF_next (d := 0) hkf (by omega) (kstep_dn (by assumption))), (by omega), (by first | exact o_58c | (have h := o_58c; simpa using h)), hS.pick [1, 2, 3]⟩
     omega
   ·
    refine K.x ((((j : Nat) : Int) : Int) < (((xs.length : Nat) : Int) : Int)) h_48 ?_
    refine K.z (K.t (K.f ?_))
    refine K.KW.exit ?_
    refine K.thn_exit ?_
    refine K.thn_exit ?_
    refine K.blk_hit ?_
    refine K.t (K.s (K.s (K.g (K.q [.bool true, .bool false] (K.z (K.t (K.f (K.k (K.t (K.s (K.g (K.q [.slice q1 o.length c1, .slice q1 o.length c1] (K.z (K.t ?_))))))))))))))
    refine K.r ?_
    have e : keysR idI k k true xs = o := by rw [keysR_of hkf (by omega)]; rfl
    refine ⟨.inr rfl, rfl, (.slice q1 o.length c1), K.res1 rfl rfl, [gx, o1], ?_, hS.pick [1, 0, 2]⟩
    exact ⟨q1, c1, _, congrArg (fun m_ => Value.slice q1 m_ c1) (by rw [e]; try omega : o.length = (keysR idI k k true xs).length), rfl, by rw [e]; first | exact x_9 | (have h := x_9; simpa using h)⟩
set_option maxHeartbeats 1000000 in
set_option maxRecDepth 100000 in
theorem keysF_ok (w0 : World) (a : Option Addr) (cap : Nat) (xs : List Int) (k : Int) (hm : xs.length ≤ 1000000) (gx : K.Cs) (hx : ∀ w, K.Sat w0 [gx] w → K.RowE w a xs.length 1 (fun i => cU32 (xs.getD i 0))) :
  K.GC Try.prog w0 48 #[.slice a xs.length cap, .int .u32 k, .bool false] [gx] (fun v post => ∃ r c l2, v = .slice r (keysR idI k k false xs).length c ∧ post = [gx, l2] ∧ K.OwnG l2 45 1 r (keysR idI k k false xs).length c ((keysR idI k k false xs).flatMap cU32)) := by
 refine K.GC.mk (n := 52) Try.func48 rfl rfl [.slice a xs.length cap, .int .u32 k, .bool false] rfl rfl ?_
 intro fr w hS
 replace hS : K.Sat w0 [gx, fr] w := hS
 refine K.s (K.g (K.q [.slice none 0 0] (K.z (K.t (K.s (K.g (K.q [.slice none 0 0] (K.z (K.t (K.s (K.g (K.q [.bool false, .bool true, .bool true] (K.z (K.t ?_))))))))))))))
 refine K.s (K.s (K.g (K.q [K.iv 0] (K.z (K.t ?_)))))
 refine K.KW.block ?_
 obtain ⟨z_1, hz_2⟩ : ∃ z : K.Cs, z = [] := ⟨_, rfl⟩
 replace hS : K.Sat w0 [z_1, gx, fr] w := hS.of (by simp [hz_2])
 have o_3 : K.OwnG z_1 45 1 none 0 0 [] := by rw [hz_2]; exact K.OwnG.nil _ _
 refine K.KW.loop (fun m_ F_ w_ => ∃ (j : Nat) (o : List Int) (f : Bool) (q1 : Option Addr) (c1 : Nat) (o1 : K.Cs), m_ = xs.length - j ∧ K.Sl F_ [(0, .slice a xs.length cap), (1, .int .u32 k), (2, .bool false), (6, .slice none 0 0), (7, .slice q1 o.length c1), (8, .bool f), (9, K.iv ((j : Nat) : Int)), (52, undef)] ∧ j ≤ xs.length ∧ keysF idI k k false (xs.take j) = (o, f) ∧ o.length ≤ 2 * j ∧ K.OwnG o1 45 1 q1 o.length c1 ((o).flatMap cU32) ∧ K.Sat w0 [o1, gx, fr] w_) ((fun (j : Nat) (o : List Int) (f : Bool) (q1 : Option Addr) (c1 : Nat) => xs.length - j) 0 [] true none 0) ?_ ?_
 ·
  exact ⟨0, [], true, none, 0, z_1, rfl, ⟨by rfl, by rfl, by rfl, by rfl, by rfl, by rfl, by rfl, by rfl, trivial⟩, (by omega), (rfl), (by exact Nat.le_refl 0), o_3, hS.pick [0, 1, 2]⟩
 ·
  clear hS
  intro m_4 F_5 w hI
  obtain ⟨j, o, f, q1, c1, o1, rfl, sl_6, p_7, hkf, p_8, x_9, hS⟩ := hI
  rw [← K.Sl.puts sl_6]; clear sl_6
  cases f
  ·
   refine K.s (K.s (K.g (K.q [K.iv ((j : Nat) : Int), .slice a xs.length cap] ?_)))
   refine K.a (K.QR.len (P := Try.prog) rfl rfl Try.underlying27) ?_
   by_cases h_10 : (((j : Nat) : Int) : Int) < (((xs.length : Nat) : Int) : Int)
   ·
    refine K.y ((((j : Nat) : Int) : Int) < (((xs.length : Nat) : Int) : Int)) h_10 ?_
    refine K.z (K.t (K.h (K.k (K.t (K.s ?_)))))
    refine K.KW.block ?_
    refine K.s (K.s ?_)
    obtain ⟨b_11, of_12, rfl, _⟩ := (hx _ (hS.pick [1])).at_ (by omega)
    refine K.g (K.q [.bool false, .bool true, .bool true, .slice (some ⟨b_11, of_12, none⟩) xs.length cap, K.iv ((j : Nat) : Int)] ?_)
    refine K.a (K.QR.ix (of_12 + j * 1) 1 rfl rfl rfl Try.underlying27 (by kernel_rfl) (by omega) (by first | (simp; done) | omega | (simp; omega))) ?_
    refine K.d (.int .u32 (xs.getD j 0)) ((hx _ (hS.pick [1])).ld j (by omega) 0 _ rfl) ?_
    refine K.q [.int .u32 k] ?_
    by_cases h_13 : (xs.getD j 0 : Int) > (k : Int)
    ·
     refine K.y ((xs.getD j 0 : Int) > (k : Int)) h_13 ?_
     refine K.q [.bool true] (K.z (K.t (K.h (K.s (K.g (K.q [.slice q1 o.length c1, .int .u32 k] ?_))))))
     refine K.l (K.OW.gbs [(0, .int .u32 k)] [.int .u32 k] hS (fun w => K.bs_run (P := Try.prog) w 27 45 1 _ _ Try.underlying27 (by kernel_rfl)) ?_)
     clear hS; intro w r_14 g_15 hg_16 hS
     refine K.l (K.OW.gapp (P := Try.prog) (xs := (o).flatMap cU32) (z := .int .u32 0) (size := 1) (bytes := 4) 1 [.int .u32 k] hS x_9 ?_ (fun j u hj => (by rw [Nat.zero_add]; exact (hS.blk 0 rfl hg_16).cell hj)) (K.one_cells (by rfl)) (by rfl) Try.underlying27 (by kernel_rfl) rfl (by decide) (by unfold maxLen; omega) (by omega))
     clear hS; intro a_17 cap_18 w l_19 o_20 hS
     have ln_21 : ((o ++ [(k : Int)])).length = o.length + 1 := by rw [List.length_append]; rfl
     have o_20c := K.OwnG.cast (xs' := ((o ++ [(k : Int)])).flatMap cU32) o_20 rfl (K.fl_snoc cU32 o (k : Int) rfl)
     replace hS : K.Sat w0 [g_15, l_19, gx, fr] w := hS
     refine K.q [.slice a_17 (o.length + 1) cap_18] (K.z (K.t (K.g (K.q [.bool true] (K.z (K.t (K.s (K.g (K.q [.slice (some ⟨b_11, of_12, none⟩) xs.length cap, K.iv ((j : Nat) : Int)] ?_)))))))))
     refine K.a (K.QR.ix (of_12 + j * 1) 1 rfl rfl rfl Try.underlying27 (by kernel_rfl) (by omega) (by first | (simp; done) | omega | (simp; omega))) ?_
     refine K.d (.int .u32 (xs.getD j 0)) ((hx _ (hS.pick [2])).ld j (by omega) 0 _ rfl) ?_
     refine K.q [.int .u32 k] ?_
     by_cases h_22 : (xs.getD j 0 : Int) = (k : Int)
     ·
      refine K.xn (xs.getD j 0 : Int) (k : Int) h_22 ?_
      refine K.z (K.t (K.f (K.k ?_)))
      refine K.blk_normal ?_
      refine K.t (K.g (K.q [K.iv ((j : Nat) : Int)] ?_))
      refine K.a (K.QR.n64 ((((j : Nat) : Int) : Int) + (1 : Int)) ((j + 1 : Nat) : Int) (by kernel_rfl) (by omega)) ?_
      refine K.q [K.iv ((j + 1 : Nat) : Int)] (K.z (K.t ?_))
      refine ⟨_, ?_, j + 1, (o ++ [(k : Int)]), true, a_17, cap_18, l_19, rfl, ⟨by rfl, by rfl, by rfl, by rfl, congrArg (fun m_ => Value.slice a_17 m_ cap_18) (by first | rfl | omega : o.length + 1 = ((o ++ [(k : Int)])).length), by rfl, by rfl, by rfl, trivial⟩, (by omega), (by exfalso; omega), (by omega), (by first | exact o_20c | (have h := o_20c; simpa using h)), hS.pick [1, 2, 3]⟩
      omega
     ·
      refine K.yn (xs.getD j 0 : Int) (k : Int) h_22 ?_
      refine K.z (K.t (K.h (K.g (K.q [.slice a_17 (o.length + 1) cap_18, .slice (some ⟨b_11, of_12, none⟩) xs.length cap, K.iv ((j : Nat) : Int)] ?_))))
      refine K.a (K.QR.ix (of_12 + j * 1) 1 rfl rfl rfl Try.underlying27 (by kernel_rfl) (by omega) (by first | (simp; done) | omega | (simp; omega))) ?_
      refine K.d (.int .u32 (xs.getD j 0)) ((hx _ (hS.pick [2])).ld j (by omega) 0 _ rfl) ?_
      refine K.l (K.OW.gbs [(0, .int .u32 (xs.getD j 0))] [.int .u32 (xs.getD j 0)] hS (fun w => K.bs_run (P := Try.prog) w 27 45 1 _ _ Try.underlying27 (by kernel_rfl)) ?_)
      clear hS; intro w r_23 g_24 hg_25 hS
      refine K.l (K.OW.gapp (P := Try.prog) (xs := ((o ++ [(k : Int)])).flatMap cU32) (z := .int .u32 0) (size := 1) (bytes := 4) 2 [.int .u32 (xs.getD j 0)] hS o_20c ?_ (fun j u hj => (by rw [Nat.zero_add]; exact (hS.blk 0 rfl hg_25).cell hj)) (K.one_cells (by rfl)) (by rfl) Try.underlying27 (by kernel_rfl) rfl (by decide) (by unfold maxLen; omega) (by omega))
      clear hS; intro a_26 cap_27 w l_28 o_29 hS
      have ln_30 : (((o ++ [(k : Int)]) ++ [(xs.getD j 0 : Int)])).length = o.length + 1 + 1 := by rw [List.length_append, ln_21]; rfl
      have o_29c := K.OwnG.cast (xs' := (((o ++ [(k : Int)]) ++ [(xs.getD j 0 : Int)])).flatMap cU32) o_29 rfl (K.fl_snoc cU32 (o ++ [(k : Int)]) (xs.getD j 0 : Int) rfl)
      replace hS : K.Sat w0 [g_24, g_15, l_28, gx, fr] w := hS
      refine K.q [.slice a_26 (o.length + 1 + 1) cap_27] (K.z ?_)
      refine K.blk_normal ?_
      refine K.t (K.g (K.q [K.iv ((j : Nat) : Int)] ?_))
      refine K.a (K.QR.n64 ((((j : Nat) : Int) : Int) + (1 : Int)) ((j + 1 : Nat) : Int) (by kernel_rfl) (by omega)) ?_
      refine K.q [K.iv ((j + 1 : Nat) : Int)] (K.z (K.t ?_))
      refine ⟨_, ?_, j + 1, ((o ++ [(k : Int)]) ++ [(xs.getD j 0 : Int)]), true, a_26, cap_27, l_28, rfl, ⟨by rfl, by rfl, by rfl, by rfl, congrArg (fun m_ => Value.slice a_26 m_ cap_27) (by first | rfl | omega : o.length + 1 + 1 = (((o ++ [(k : Int)]) ++ [(xs.getD j 0 : Int)])).length), by rfl, by rfl, by rfl, trivial⟩, (by omega), (keysF_next (d := 0) hkf (by omega) (kstep_gt (by assumption))), (by omega), (by first | exact o_29c | (have h := o_29c; simpa using h)), hS.pick [2, 3, 4]⟩
      omega
    ·
     refine K.x ((xs.getD j 0 : Int) > (k : Int)) h_13 ?_
     refine K.q [.bool false] (K.z (K.t (K.f (K.k (K.t (K.s (K.g (K.q [.slice (some ⟨b_11, of_12, none⟩) xs.length cap, K.iv ((j : Nat) : Int)] ?_))))))))
     refine K.a (K.QR.ix (of_12 + j * 1) 1 rfl rfl rfl Try.underlying27 (by kernel_rfl) (by omega) (by first | (simp; done) | omega | (simp; omega))) ?_
     refine K.d (.int .u32 (xs.getD j 0)) ((hx _ (hS.pick [1])).ld j (by omega) 0 _ rfl) ?_
     refine K.q [.int .u32 k] ?_
     by_cases h_31 : (xs.getD j 0 : Int) = (k : Int)
     ·
      refine K.xn (xs.getD j 0 : Int) (k : Int) h_31 ?_
      refine K.z (K.t (K.f (K.k ?_)))
      refine K.blk_normal ?_
      refine K.t (K.g (K.q [K.iv ((j : Nat) : Int)] ?_))
      refine K.a (K.QR.n64 ((((j : Nat) : Int) : Int) + (1 : Int)) ((j + 1 : Nat) : Int) (by kernel_rfl) (by omega)) ?_
      refine K.q [K.iv ((j + 1 : Nat) : Int)] (K.z (K.t ?_))
      refine ⟨_, ?_, j + 1, o, false, q1, c1, o1, rfl, ⟨by rfl, by rfl, by rfl, by rfl, congrArg (fun m_ => Value.slice q1 m_ c1) (by first | rfl | omega : o.length = (o).length), by rfl, by rfl, by rfl, trivial⟩, (by omega), (keysF_next (d := 0) hkf (by omega) (kstep_eq (by assumption))), (by omega), (by first | exact x_9 | (have h := x_9; simpa using h)), hS.pick [0, 1, 2]⟩
      omega
     ·
      refine K.yn (xs.getD j 0 : Int) (k : Int) h_31 ?_
      refine K.z (K.t (K.h (K.g (K.q [.slice q1 o.length c1, .slice (some ⟨b_11, of_12, none⟩) xs.length cap, K.iv ((j : Nat) : Int)] ?_))))
      refine K.a (K.QR.ix (of_12 + j * 1) 1 rfl rfl rfl Try.underlying27 (by kernel_rfl) (by omega) (by first | (simp; done) | omega | (simp; omega))) ?_
      refine K.d (.int .u32 (xs.getD j 0)) ((hx _ (hS.pick [1])).ld j (by omega) 0 _ rfl) ?_
      refine K.l (K.OW.gbs [(0, .int .u32 (xs.getD j 0))] [.int .u32 (xs.getD j 0)] hS (fun w => K.bs_run (P := Try.prog) w 27 45 1 _ _ Try.underlying27 (by kernel_rfl)) ?_)
      clear hS; intro w r_32 g_33 hg_34 hS
      refine K.l (K.OW.gapp (P := Try.prog) (xs := (o).flatMap cU32) (z := .int .u32 0) (size := 1) (bytes := 4) 1 [.int .u32 (xs.getD j 0)] hS x_9 ?_ (fun j u hj => (by rw [Nat.zero_add]; exact (hS.blk 0 rfl hg_34).cell hj)) (K.one_cells (by rfl)) (by rfl) Try.underlying27 (by kernel_rfl) rfl (by decide) (by unfold maxLen; omega) (by omega))
      clear hS; intro a_35 cap_36 w l_37 o_38 hS
      have ln_39 : ((o ++ [(xs.getD j 0 : Int)])).length = o.length + 1 := by rw [List.length_append]; rfl
      have o_38c := K.OwnG.cast (xs' := ((o ++ [(xs.getD j 0 : Int)])).flatMap cU32) o_38 rfl (K.fl_snoc cU32 o (xs.getD j 0 : Int) rfl)
      replace hS : K.Sat w0 [g_33, l_37, gx, fr] w := hS
      refine K.q [.slice a_35 (o.length + 1) cap_36] (K.z ?_)
      refine K.blk_normal ?_
      refine K.t (K.g (K.q [K.iv ((j : Nat) : Int)] ?_))
      refine K.a (K.QR.n64 ((((j : Nat) : Int) : Int) + (1 : Int)) ((j + 1 : Nat) : Int) (by kernel_rfl) (by omega)) ?_
      refine K.q [K.iv ((j + 1 : Nat) : Int)] (K.z (K.t ?_))
      refine ⟨_, ?_, j + 1, (o ++ [(xs.getD j 0 : Int)]), false, a_35, cap_36, l_37, rfl, ⟨by rfl, by rfl, by rfl, by rfl, congrArg (fun m_ => Value.slice a_35 m_ cap_36) (by first | rfl | omega : o.length + 1 = ((o ++ [(xs.getD j 0 : Int)])).length), by rfl, by rfl, by rfl, trivial⟩, (by omega), (keysF_next (d := 0) hkf (by omega) (kstep_lt (by assumption) (by assumption))), (by omega), (by first | exact o_38c | (have h := o_38c; simpa using h)), hS.pick [1, 2, 3]⟩
      omega
   ·
    refine K.x ((((j : Nat) : Int) : Int) < (((xs.length : Nat) : Int) : Int)) h_10 ?_
    refine K.z (K.t (K.f ?_))
    refine K.KW.exit ?_
    refine K.thn_exit ?_
    refine K.thn_exit ?_
    refine K.blk_hit ?_
    refine K.t (K.s (K.s (K.g (K.q [.bool false, .bool true] (K.z (K.t (K.h (K.g (K.q [.slice q1 o.length c1, .int .u32 k] ?_)))))))))
    refine K.l (K.OW.gbs [(0, .int .u32 k)] [.int .u32 k] hS (fun w => K.bs_run (P := Try.prog) w 27 45 1 _ _ Try.underlying27 (by kernel_rfl)) ?_)
    clear hS; intro w r_40 g_41 hg_42 hS
    refine K.l (K.OW.gapp (P := Try.prog) (xs := (o).flatMap cU32) (z := .int .u32 0) (size := 1) (bytes := 4) 1 [.int .u32 k] hS x_9 ?_ (fun j u hj => (by rw [Nat.zero_add]; exact (hS.blk 0 rfl hg_42).cell hj)) (K.one_cells (by rfl)) (by rfl) Try.underlying27 (by kernel_rfl) rfl (by decide) (by unfold maxLen; omega) (by omega))
    clear hS; intro a_43 cap_44 w l_45 o_46 hS
    have ln_47 : ((o ++ [(k : Int)])).length = o.length + 1 := by rw [List.length_append]; rfl
    have o_46c := K.OwnG.cast (xs' := ((o ++ [(k : Int)])).flatMap cU32) o_46 rfl (K.fl_snoc cU32 o (k : Int) rfl)
    replace hS : K.Sat w0 [g_41, l_45, gx, fr] w := hS
    refine K.q [.slice a_43 (o.length + 1) cap_44] (K.z (K.t (K.s (K.g (K.q [.slice a_43 (o.length + 1) cap_44, .slice a_43 (o.length + 1) cap_44] (K.z (K.t (K.r ?_))))))))
    have e : keysR idI k k false xs = (o ++ [(k : Int)]) := by rw [keysR_of hkf (by omega)]; rfl
    refine ⟨.inr rfl, rfl, (.slice a_43 (o.length + 1) cap_44), K.res1 rfl rfl, [gx, l_45], ?_, hS.pick [2, 1, 3]⟩
    exact ⟨a_43, cap_44, _, congrArg (fun m_ => Value.slice a_43 m_ cap_44) (by rw [e]; try omega : o.length + 1 = (keysR idI k k false xs).length), rfl, by rw [e]; first | exact o_46c | (have h := o_46c; simpa using h)⟩
  ·
   refine K.s (K.s (K.g (K.q [K.iv ((j : Nat) : Int), .slice a xs.length cap] ?_)))
   refine K.a (K.QR.len (P := Try.prog) rfl rfl Try.underlying27) ?_
   by_cases h_48 : (((j : Nat) : Int) : Int) < (((xs.length : Nat) : Int) : Int)
   ·
    refine K.y ((((j : Nat) : Int) : Int) < (((xs.length : Nat) : Int) : Int)) h_48 ?_
    refine K.z (K.t (K.h (K.k (K.t (K.s ?_)))))
    refine K.KW.block ?_
    refine K.s (K.s ?_)
    obtain ⟨b_49, of_50, rfl, _⟩ := (hx _ (hS.pick [1])).at_ (by omega)
    refine K.g (K.q [.bool true, .bool false, .bool false] (K.n_ (K.n_ (K.n_ (K.n_ (K.n_ (K.n_ (K.q [.bool false] (K.z (K.t (K.f (K.k (K.t (K.s ?_))))))))))))))
    refine K.g (K.q [.slice (some ⟨b_49, of_50, none⟩) xs.length cap, K.iv ((j : Nat) : Int)] ?_)
    refine K.a (K.QR.ix (of_50 + j * 1) 1 rfl rfl rfl Try.underlying27 (by kernel_rfl) (by omega) (by first | (simp; done) | omega | (simp; omega))) ?_
    refine K.d (.int .u32 (xs.getD j 0)) ((hx _ (hS.pick [1])).ld j (by omega) 0 _ rfl) ?_
    refine K.q [.int .u32 k] ?_
    by_cases h_51 : (xs.getD j 0 : Int) = (k : Int)
    ·
     refine K.xn (xs.getD j 0 : Int) (k : Int) h_51 ?_
     refine K.z (K.t (K.f (K.k ?_)))
     refine K.blk_normal ?_
     refine K.t (K.g (K.q [K.iv ((j : Nat) : Int)] ?_))
     refine K.a (K.QR.n64 ((((j : Nat) : Int) : Int) + (1 : Int)) ((j + 1 : Nat) : Int) (by kernel_rfl) (by omega)) ?_
     refine K.q [K.iv ((j + 1 : Nat) : Int)] (K.z (K.t ?_))
     refine ⟨_, ?_, j + 1, o, true, q1, c1, o1, rfl, ⟨by rfl, by rfl, by rfl, by rfl, congrArg (fun m_ => Value.slice q1 m_ c1) (by first | rfl | omega : o.length = (o).length), by rfl, by rfl, by rfl, trivial⟩, (by omega), (keysF_next (d := 0) hkf (by omega) (kstep_de (by assumption))), (by omega), (by first | exact x_9 | (have h := x_9; simpa using h)), hS.pick [0, 1, 2]⟩
     omega
    ·
     refine K.yn (xs.getD j 0 : Int) (k : Int) h_51 ?_
     refine K.z (K.t (K.h (K.g (K.q [.slice q1 o.length c1, .slice (some ⟨b_49, of_50, none⟩) xs.length cap, K.iv ((j : Nat) : Int)] ?_))))
     refine K.a (K.QR.ix (of_50 + j * 1) 1 rfl rfl rfl Try.underlying27 (by kernel_rfl) (by omega) (by first | (simp; done) | omega | (simp; omega))) ?_
     refine K.d (.int .u32 (xs.getD j 0)) ((hx _ (hS.pick [1])).ld j (by omega) 0 _ rfl) ?_
     refine K.l (K.OW.gbs [(0, .int .u32 (xs.getD j 0))] [.int .u32 (xs.getD j 0)] hS (fun w => K.bs_run (P := Try.prog) w 27 45 1 _ _ Try.underlying27 (by kernel_rfl)) ?_)
     clear hS; intro w r_52 g_53 hg_54 hS
     refine K.l (K.OW.gapp (P := Try.prog) (xs := (o).flatMap cU32) (z := .int .u32 0) (size := 1) (bytes := 4) 1 [.int .u32 (xs.getD j 0)] hS x_9 ?_ (fun j u hj => (by rw [Nat.zero_add]; exact (hS.blk 0 rfl hg_54).cell hj)) (K.one_cells (by rfl)) (by rfl) Try.underlying27 (by kernel_rfl) rfl (by decide) (by unfold maxLen; omega) (by omega))
     clear hS; intro a_55 cap_56 w l_57 o_58 hS
     have ln_59 : ((o ++ [(xs.getD j 0 : Int)])).length = o.length + 1 := by rw [List.length_append]; rfl
     have o_58c := K.OwnG.cast (xs' := ((o ++ [(xs.getD j 0 : Int)])).flatMap cU32) o_58 rfl (K.fl_snoc cU32 o (xs.getD j 0 : Int) rfl)
     replace hS : K.Sat w0 [g_53, l_57, gx, fr] w := hS
     refine K.q [.slice a_55 (o.length + 1) cap_56] (K.z ?_)
     refine K.blk_normal ?_
     refine K.t (K.g (K.q [K.iv ((j : Nat) : Int)] ?_))
     refine K.a (K.QR.n64 ((((j : Nat) : Int) : Int) + (1 : Int)) ((j + 1 : Nat) : Int) (by kernel_rfl) (by omega)) ?_
     refine K.q [K.iv ((j + 1 : Nat) : Int)] (K.z (K.t ?_))
     refine ⟨_, ?_, j + 1, (o ++ [(xs.getD j 0 : Int)]), true, a_55, cap_56, l_57, rfl, ⟨by rfl, by rfl, by rfl, by rfl, congrArg (fun m_ => Value.slice a_55 m_ cap_56) (by first | rfl | omega : o.length + 1 = ((o ++ [(xs.getD j 0 : Int)])).length), by rfl, by rfl, by rfl, trivial⟩, (by omega), (keysF_next (d := 0) hkf (by omega) (kstep_dn (by assumption))), (by omega), (by first | exact o_58c | (have h := o_58c; simpa using h)), hS.pick [1, 2, 3]⟩
     omega
   ·
    refine K.x ((((j : Nat) : Int) : Int) < (((xs.length : Nat) : Int) : Int)) h_48 ?_
    refine K.z (K.t (K.f ?_))
    refine K.KW.exit ?_
    refine K.thn_exit ?_
    refine K.thn_exit ?_
    refine K.blk_hit ?_
    refine K.t (K.s (K.s (K.g (K.q [.bool true, .bool false] (K.z (K.t (K.f (K.k (K.t (K.s (K.g (K.q [.slice q1 o.length c1, .slice q1 o.length c1] (K.z (K.t ?_))))))))))))))
    refine K.r ?_
    have e : keysR idI k k false xs = o := by rw [keysR_of hkf (by omega)]; rfl
    refine ⟨.inr rfl, rfl, (.slice q1 o.length c1), K.res1 rfl rfl, [gx, o1], ?_, hS.pick [1, 0, 2]⟩
    exact ⟨q1, c1, _, congrArg (fun m_ => Value.slice q1 m_ c1) (by rw [e]; try omega : o.length = (keysR idI k k false xs).length), rfl, by rw [e]; first | exact x_9 | (have h := x_9; simpa using h)⟩
set_option maxHeartbeats 1000000 in
set_option maxRecDepth 100000 in
theorem prsT_ok (w0 : World) (a : Option Addr) (cap : Nat) (xs : List PairM) (k : Int) (vv : Int) (hm : xs.length ≤ 1000000) (gx : K.Cs) (hx : ∀ w, K.Sat w0 [gx] w → K.RowE w a xs.length 2 (fun i => cPair (xs.getD i p0))) :
  K.GC Try.prog w0 49 #[.slice a xs.length cap, .agg #[.int .u32 k, .int .u32 vv], .bool true] [gx] (fun v post => ∃ r c l2, v = .slice r (keysR PairM.key k (⟨k, vv⟩ : PairM) true xs).length c ∧ post = [gx, l2] ∧ K.OwnG l2 59 2 r (keysR PairM.key k (⟨k, vv⟩ : PairM) true xs).length c ((keysR PairM.key k (⟨k, vv⟩ : PairM) true xs).flatMap cPair)) := by
 refine K.GC.mk (n := 56) Try.func49 rfl rfl [.slice a xs.length cap, .agg #[.int .u32 k, .int .u32 vv], .bool true] rfl rfl ?_
 intro fr w hS
 replace hS : K.Sat w0 [gx, fr] w := hS
 refine K.s (K.g ?_)
 refine K.l (K.OW.gnew 59 [.int .u32 k, .int .u32 vv] hS ?_)
 clear hS; intro w r_1 g_2 hg_3 hS
 refine K.q [.slice none 0 0] (K.z (K.t (K.s (K.g (K.q [.slice none 0 0] (K.z (K.t (K.s (K.g (K.q [.bool true, .bool false, .bool false] (K.z (K.t (K.s (K.s ?_))))))))))))))
 refine K.g (K.q [K.iv 0] (K.z (K.t ?_)))
 refine K.KW.block ?_
 obtain ⟨z_4, hz_5⟩ : ∃ z : K.Cs, z = [] := ⟨_, rfl⟩
 replace hS : K.Sat w0 [z_4, g_2, gx, fr] w := hS.of (by simp [hz_5])
 have o_6 : K.OwnG z_4 59 2 none 0 0 [] := by rw [hz_5]; exact K.OwnG.nil _ _
 refine K.KW.loop (fun m_ F_ w_ => ∃ (j : Nat) (o : List PairM) (f : Bool) (q1 : Option Addr) (c1 : Nat) (o1 : K.Cs), m_ = xs.length - j ∧ K.Sl F_ [(0, .slice a xs.length cap), (1, .agg #[.int .u32 k, .int .u32 vv]), (2, .bool true), (4, K.pa r_1), (6, .slice none 0 0), (7, .slice q1 o.length c1), (8, .bool f), (9, K.iv ((j : Nat) : Int)), (56, undef)] ∧ j ≤ xs.length ∧ keysF PairM.key k (⟨k, vv⟩ : PairM) true (xs.take j) = (o, f) ∧ o.length ≤ 2 * j ∧ K.OwnG o1 59 2 q1 o.length c1 ((o).flatMap cPair) ∧ K.Sat w0 [o1, g_2, gx, fr] w_) ((fun (j : Nat) (o : List PairM) (f : Bool) (q1 : Option Addr) (c1 : Nat) => xs.length - j) 0 [] false none 0) ?_ ?_
 ·
  exact ⟨0, [], false, none, 0, z_4, rfl, ⟨by rfl, by rfl, by rfl, by rfl, by rfl, by rfl, by rfl, by rfl, by rfl, trivial⟩, (by omega), (rfl), (by exact Nat.le_refl 0), o_6, hS.pick [0, 1, 2, 3]⟩
 ·
  clear hS
  intro m_7 F_8 w hI
  obtain ⟨j, o, f, q1, c1, o1, rfl, sl_9, p_10, hkf, p_11, x_12, hS⟩ := hI
  rw [← K.Sl.puts sl_9]; clear sl_9
  cases f
  ·
   refine K.s (K.s (K.g (K.q [K.iv ((j : Nat) : Int), .slice a xs.length cap] ?_)))
   refine K.a (K.QR.len (P := Try.prog) rfl rfl Try.underlying28) ?_
   by_cases h_13 : (((j : Nat) : Int) : Int) < (((xs.length : Nat) : Int) : Int)
   ·
    refine K.y ((((j : Nat) : Int) : Int) < (((xs.length : Nat) : Int) : Int)) h_13 ?_
    refine K.z (K.t (K.h (K.k (K.t (K.s ?_)))))
    refine K.KW.block ?_
    refine K.s (K.s ?_)
    obtain ⟨b_14, of_15, rfl, _⟩ := (hx _ (hS.pick [2])).at_ (by omega)
    refine K.KW.gdrawn [2] hS (by kernel_rfl) ?_
    clear hS; intro w hS
    refine K.b 0 rfl (.bool false) (hS.pick [2]) ?_
    refine K.b 1 rfl (.bool true) (hS.pick [2]) ?_
    refine K.b 2 rfl (.bool true) (hS.pick [2]) ?_
    refine K.p 3 rfl (.slice (some ⟨b_14, of_15, none⟩) xs.length cap) (hS.pick [2]) ?_
    refine K.p 4 rfl (K.iv ((j : Nat) : Int)) (hS.pick [2]) ?_
    refine K.m 5 rfl (fun w hS => K.QR.ix (of_15 + j * 2) 2 rfl rfl rfl Try.underlying28 (by kernel_rfl) (by omega) (by first | (simp; done) | omega | (simp; omega))) (hS.pick [2]) ?_
    refine K.p 6 rfl (.pointer (some ⟨b_14, of_15 + j * 2, none⟩)) (hS.pick [2]) ?_
    refine K.o_ 7 rfl (.int .u32 ((xs.getD j p0).key)) (fun w hS => ((hx _ (hS.pick [0])).ld j (by omega) 0 _ rfl)) (hS.pick [2]) ?_
    refine K.b 8 rfl (K.pa r_1) (hS.pick [2]) ?_
    refine K.c 9 rfl (K.QR.ld1 (v := .int .u32 k) rfl rfl (by kernel_rfl) ((hS.blk 1 rfl hg_3).cell rfl)) (hS.pick [2]) ?_
    by_cases h_16 : ((xs.getD j p0).key : Int) > (k : Int)
    ·
     refine K.c 10 rfl (K.QR.nice (v := .bool (decide (((xs.getD j p0).key : Int) > (k : Int)))) (by kernel_rfl) (congrArg Value.bool (decide_eq_true h_16))) (hS.pick [2]) ?_
     refine K.b 11 rfl (.bool true) (hS.pick [2]) ?_
     refine K.DW.done (by kernel_rfl) ?_
     refine K.t (K.h (K.s (K.g (K.q [.slice q1 o.length c1] ?_))))
     refine K.a (K.QR.ldN [.int .u32 k, .int .u32 vv] rfl rfl (by kernel_rfl) (by kernel_rfl) (K.cells (K.cl ((hS.blk 1 rfl hg_3).cell rfl) (K.cl ((hS.blk 1 rfl hg_3).cell rfl) K.cl0)))) ?_
     refine K.l (K.OW.gbs [(0, .agg #[.int .u32 k, .int .u32 vv])] [.int .u32 k, .int .u32 vv] hS (fun w => K.bs_run (P := Try.prog) w 28 59 1 _ _ Try.underlying28 (by kernel_rfl)) ?_)
     clear hS; intro w r_17 g_18 hg_19 hS
     refine K.l (K.OW.gapp (P := Try.prog) (xs := (o).flatMap cPair) (z := .agg #[.int .u32 0, .int .u32 0]) (size := 2) (bytes := 8) 1 [.int .u32 k, .int .u32 vv] hS x_12 ?_ (fun j u hj => (by rw [Nat.zero_add]; exact (hS.blk 0 rfl hg_19).cell hj)) (K.one_cells (by rfl)) (by rfl) Try.underlying28 (by kernel_rfl) rfl (by decide) (by unfold maxLen; omega) (by omega))
     clear hS; intro a_20 cap_21 w l_22 o_23 hS
     have ln_24 : ((o ++ [(⟨k, vv⟩ : PairM)])).length = o.length + 1 := by rw [List.length_append]; rfl
     have o_23c := K.OwnG.cast (xs' := ((o ++ [(⟨k, vv⟩ : PairM)])).flatMap cPair) o_23 rfl (K.fl_snoc cPair o (⟨k, vv⟩ : PairM) rfl)
     replace hS : K.Sat w0 [g_18, l_22, g_2, gx, fr] w := hS
     refine K.q [.slice a_20 (o.length + 1) cap_21] (K.z (K.t (K.g (K.q [.bool true] (K.z (K.t (K.s ?_)))))))
     refine K.KW.gdrawn [3] hS (by kernel_rfl) ?_
     clear hS; intro w hS
     refine K.p 0 rfl (.slice (some ⟨b_14, of_15, none⟩) xs.length cap) (hS.pick [3]) ?_
     refine K.p 1 rfl (K.iv ((j : Nat) : Int)) (hS.pick [3]) ?_
     refine K.m 2 rfl (fun w hS => K.QR.ix (of_15 + j * 2) 2 rfl rfl rfl Try.underlying28 (by kernel_rfl) (by omega) (by first | (simp; done) | omega | (simp; omega))) (hS.pick [3]) ?_
     refine K.p 3 rfl (.pointer (some ⟨b_14, of_15 + j * 2, none⟩)) (hS.pick [3]) ?_
     refine K.o_ 4 rfl (.int .u32 ((xs.getD j p0).key)) (fun w hS => ((hx _ (hS.pick [0])).ld j (by omega) 0 _ rfl)) (hS.pick [3]) ?_
     refine K.b 5 rfl (K.pa r_1) (hS.pick [3]) ?_
     refine K.c 6 rfl (K.QR.ld1 (v := .int .u32 k) rfl rfl (by kernel_rfl) ((hS.blk 2 rfl hg_3).cell rfl)) (hS.pick [3]) ?_
     by_cases h_25 : ((xs.getD j p0).key : Int) = (k : Int)
     ·
      refine K.c 7 rfl (K.QR.nice (v := .bool (((xs.getD j p0).key : Int) != (k : Int))) (by kernel_rfl) (congrArg Value.bool (bne_eq_false_iff_eq.2 h_25))) (hS.pick [3]) ?_
      refine K.DW.done (by kernel_rfl) ?_
      refine K.t (K.f (K.k ?_))
      refine K.blk_normal ?_
      refine K.t (K.g (K.q [K.iv ((j : Nat) : Int)] ?_))
      refine K.a (K.QR.n64 ((((j : Nat) : Int) : Int) + (1 : Int)) ((j + 1 : Nat) : Int) (by kernel_rfl) (by omega)) ?_
      refine K.q [K.iv ((j + 1 : Nat) : Int)] (K.z (K.t ?_))
      refine ⟨_, ?_, j + 1, (o ++ [(⟨k, vv⟩ : PairM)]), true, a_20, cap_21, l_22, rfl, ⟨by rfl, by rfl, by rfl, by rfl, by rfl, congrArg (fun m_ => Value.slice a_20 m_ cap_21) (by first | rfl | omega : o.length + 1 = ((o ++ [(⟨k, vv⟩ : PairM)])).length), by rfl, by rfl, by rfl, trivial⟩, (by omega), (by exfalso; omega), (by omega), (by first | exact o_23c | (have h := o_23c; simpa using h)), hS.pick [1, 2, 3, 4]⟩
      omega
     ·
      refine K.c 7 rfl (K.QR.nice (v := .bool (((xs.getD j p0).key : Int) != (k : Int))) (by kernel_rfl) (congrArg Value.bool (bne_iff_ne.2 h_25))) (hS.pick [3]) ?_
      refine K.DW.done (by kernel_rfl) ?_
      refine K.t (K.h (K.g (K.q [.slice a_20 (o.length + 1) cap_21, .slice (some ⟨b_14, of_15, none⟩) xs.length cap, K.iv ((j : Nat) : Int)] ?_)))
      refine K.a (K.QR.ix (of_15 + j * 2) 2 rfl rfl rfl Try.underlying28 (by kernel_rfl) (by omega) (by first | (simp; done) | omega | (simp; omega))) ?_
      refine K.a (K.QR.ldN [.int .u32 ((xs.getD j p0).key), .int .u32 ((xs.getD j p0).val)] rfl rfl (by kernel_rfl) (by kernel_rfl) (K.cells (K.cl ((hx _ (hS.pick [3])).ld j (by omega) 0 _ rfl) (K.cl ((hx _ (hS.pick [3])).ld j (by omega) 1 _ rfl) K.cl0)))) ?_
      refine K.l (K.OW.gbs [(0, .agg #[.int .u32 ((xs.getD j p0).key), .int .u32 ((xs.getD j p0).val)])] [.int .u32 ((xs.getD j p0).key), .int .u32 ((xs.getD j p0).val)] hS (fun w => K.bs_run (P := Try.prog) w 28 59 1 _ _ Try.underlying28 (by kernel_rfl)) ?_)
      clear hS; intro w r_26 g_27 hg_28 hS
      refine K.l (K.OW.gapp (P := Try.prog) (xs := ((o ++ [(⟨k, vv⟩ : PairM)])).flatMap cPair) (z := .agg #[.int .u32 0, .int .u32 0]) (size := 2) (bytes := 8) 2 [.int .u32 ((xs.getD j p0).key), .int .u32 ((xs.getD j p0).val)] hS o_23c ?_ (fun j u hj => (by rw [Nat.zero_add]; exact (hS.blk 0 rfl hg_28).cell hj)) (K.one_cells (by rfl)) (by rfl) Try.underlying28 (by kernel_rfl) rfl (by decide) (by unfold maxLen; omega) (by omega))
      clear hS; intro a_29 cap_30 w l_31 o_32 hS
      have ln_33 : (((o ++ [(⟨k, vv⟩ : PairM)]) ++ [(⟨(xs.getD j p0).key, (xs.getD j p0).val⟩ : PairM)])).length = o.length + 1 + 1 := by rw [List.length_append, ln_24]; rfl
      have o_32c := K.OwnG.cast (xs' := (((o ++ [(⟨k, vv⟩ : PairM)]) ++ [(⟨(xs.getD j p0).key, (xs.getD j p0).val⟩ : PairM)])).flatMap cPair) o_32 rfl (K.fl_snoc cPair (o ++ [(⟨k, vv⟩ : PairM)]) (⟨(xs.getD j p0).key, (xs.getD j p0).val⟩ : PairM) rfl)
      replace hS : K.Sat w0 [g_27, g_18, l_31, g_2, gx, fr] w := hS
      refine K.q [.slice a_29 (o.length + 1 + 1) cap_30] (K.z ?_)
      refine K.blk_normal ?_
      refine K.t (K.g (K.q [K.iv ((j : Nat) : Int)] ?_))
      refine K.a (K.QR.n64 ((((j : Nat) : Int) : Int) + (1 : Int)) ((j + 1 : Nat) : Int) (by kernel_rfl) (by omega)) ?_
      refine K.q [K.iv ((j + 1 : Nat) : Int)] (K.z (K.t ?_))
      refine ⟨_, ?_, j + 1, ((o ++ [(⟨k, vv⟩ : PairM)]) ++ [(⟨(xs.getD j p0).key, (xs.getD j p0).val⟩ : PairM)]), true, a_29, cap_30, l_31, rfl, ⟨by rfl, by rfl, by rfl, by rfl, by rfl, congrArg (fun m_ => Value.slice a_29 m_ cap_30) (by first | rfl | omega : o.length + 1 + 1 = (((o ++ [(⟨k, vv⟩ : PairM)]) ++ [(⟨(xs.getD j p0).key, (xs.getD j p0).val⟩ : PairM)])).length), by rfl, by rfl, by rfl, trivial⟩, (by omega), (keysF_next (d := p0) hkf (by omega) (kstep_gt (by assumption))), (by omega), (by first | exact o_32c | (have h := o_32c; simpa using h)), hS.pick [2, 3, 4, 5]⟩
      omega
    ·
     refine K.c 10 rfl (K.QR.nice (v := .bool (decide (((xs.getD j p0).key : Int) > (k : Int)))) (by kernel_rfl) (congrArg Value.bool (decide_eq_false h_16))) (hS.pick [2]) ?_
     refine K.b 11 rfl (.bool false) (hS.pick [2]) ?_
     refine K.DW.done (by kernel_rfl) ?_
     refine K.t (K.f (K.k (K.t (K.s ?_))))
     refine K.KW.gdrawn [2] hS (by kernel_rfl) ?_
     clear hS; intro w hS
     refine K.p 0 rfl (.slice (some ⟨b_14, of_15, none⟩) xs.length cap) (hS.pick [2]) ?_
     refine K.p 1 rfl (K.iv ((j : Nat) : Int)) (hS.pick [2]) ?_
     refine K.m 2 rfl (fun w hS => K.QR.ix (of_15 + j * 2) 2 rfl rfl rfl Try.underlying28 (by kernel_rfl) (by omega) (by first | (simp; done) | omega | (simp; omega))) (hS.pick [2]) ?_
     refine K.p 3 rfl (.pointer (some ⟨b_14, of_15 + j * 2, none⟩)) (hS.pick [2]) ?_
     refine K.o_ 4 rfl (.int .u32 ((xs.getD j p0).key)) (fun w hS => ((hx _ (hS.pick [0])).ld j (by omega) 0 _ rfl)) (hS.pick [2]) ?_
     refine K.b 5 rfl (K.pa r_1) (hS.pick [2]) ?_
     refine K.c 6 rfl (K.QR.ld1 (v := .int .u32 k) rfl rfl (by kernel_rfl) ((hS.blk 1 rfl hg_3).cell rfl)) (hS.pick [2]) ?_
     by_cases h_34 : ((xs.getD j p0).key : Int) = (k : Int)
     ·
      refine K.c 7 rfl (K.QR.nice (v := .bool (((xs.getD j p0).key : Int) != (k : Int))) (by kernel_rfl) (congrArg Value.bool (bne_eq_false_iff_eq.2 h_34))) (hS.pick [2]) ?_
      refine K.DW.done (by kernel_rfl) ?_
      refine K.t (K.f (K.k ?_))
      refine K.blk_normal ?_
      refine K.t (K.g (K.q [K.iv ((j : Nat) : Int)] ?_))
      refine K.a (K.QR.n64 ((((j : Nat) : Int) : Int) + (1 : Int)) ((j + 1 : Nat) : Int) (by kernel_rfl) (by omega)) ?_
      refine K.q [K.iv ((j + 1 : Nat) : Int)] (K.z (K.t ?_))
      refine ⟨_, ?_, j + 1, o, false, q1, c1, o1, rfl, ⟨by rfl, by rfl, by rfl, by rfl, by rfl, congrArg (fun m_ => Value.slice q1 m_ c1) (by first | rfl | omega : o.length = (o).length), by rfl, by rfl, by rfl, trivial⟩, (by omega), (keysF_next (d := p0) hkf (by omega) (kstep_eq (by assumption))), (by omega), (by first | exact x_12 | (have h := x_12; simpa using h)), hS.pick [0, 1, 2, 3]⟩
      omega
     ·
      refine K.c 7 rfl (K.QR.nice (v := .bool (((xs.getD j p0).key : Int) != (k : Int))) (by kernel_rfl) (congrArg Value.bool (bne_iff_ne.2 h_34))) (hS.pick [2]) ?_
      refine K.DW.done (by kernel_rfl) ?_
      refine K.t (K.h (K.g (K.q [.slice q1 o.length c1, .slice (some ⟨b_14, of_15, none⟩) xs.length cap, K.iv ((j : Nat) : Int)] ?_)))
      refine K.a (K.QR.ix (of_15 + j * 2) 2 rfl rfl rfl Try.underlying28 (by kernel_rfl) (by omega) (by first | (simp; done) | omega | (simp; omega))) ?_
      refine K.a (K.QR.ldN [.int .u32 ((xs.getD j p0).key), .int .u32 ((xs.getD j p0).val)] rfl rfl (by kernel_rfl) (by kernel_rfl) (K.cells (K.cl ((hx _ (hS.pick [2])).ld j (by omega) 0 _ rfl) (K.cl ((hx _ (hS.pick [2])).ld j (by omega) 1 _ rfl) K.cl0)))) ?_
      refine K.l (K.OW.gbs [(0, .agg #[.int .u32 ((xs.getD j p0).key), .int .u32 ((xs.getD j p0).val)])] [.int .u32 ((xs.getD j p0).key), .int .u32 ((xs.getD j p0).val)] hS (fun w => K.bs_run (P := Try.prog) w 28 59 1 _ _ Try.underlying28 (by kernel_rfl)) ?_)
      clear hS; intro w r_35 g_36 hg_37 hS
      refine K.l (K.OW.gapp (P := Try.prog) (xs := (o).flatMap cPair) (z := .agg #[.int .u32 0, .int .u32 0]) (size := 2) (bytes := 8) 1 [.int .u32 ((xs.getD j p0).key), .int .u32 ((xs.getD j p0).val)] hS x_12 ?_ (fun j u hj => (by rw [Nat.zero_add]; exact (hS.blk 0 rfl hg_37).cell hj)) (K.one_cells (by rfl)) (by rfl) Try.underlying28 (by kernel_rfl) rfl (by decide) (by unfold maxLen; omega) (by omega))
      clear hS; intro a_38 cap_39 w l_40 o_41 hS
      have ln_42 : ((o ++ [(⟨(xs.getD j p0).key, (xs.getD j p0).val⟩ : PairM)])).length = o.length + 1 := by rw [List.length_append]; rfl
      have o_41c := K.OwnG.cast (xs' := ((o ++ [(⟨(xs.getD j p0).key, (xs.getD j p0).val⟩ : PairM)])).flatMap cPair) o_41 rfl (K.fl_snoc cPair o (⟨(xs.getD j p0).key, (xs.getD j p0).val⟩ : PairM) rfl)
      replace hS : K.Sat w0 [g_36, l_40, g_2, gx, fr] w := hS
      refine K.q [.slice a_38 (o.length + 1) cap_39] (K.z ?_)
      refine K.blk_normal ?_
      refine K.t (K.g (K.q [K.iv ((j : Nat) : Int)] ?_))
      refine K.a (K.QR.n64 ((((j : Nat) : Int) : Int) + (1 : Int)) ((j + 1 : Nat) : Int) (by kernel_rfl) (by omega)) ?_
      refine K.q [K.iv ((j + 1 : Nat) : Int)] (K.z (K.t ?_))
      refine ⟨_, ?_, j + 1, (o ++ [(⟨(xs.getD j p0).key, (xs.getD j p0).val⟩ : PairM)]), false, a_38, cap_39, l_40, rfl, ⟨by rfl, by rfl, by rfl, by rfl, by rfl, congrArg (fun m_ => Value.slice a_38 m_ cap_39) (by first | rfl | omega : o.length + 1 = ((o ++ [(⟨(xs.getD j p0).key, (xs.getD j p0).val⟩ : PairM)])).length), by rfl, by rfl, by rfl, trivial⟩, (by omega), (keysF_next (d := p0) hkf (by omega) (kstep_lt (by assumption) (by assumption))), (by omega), (by first | exact o_41c | (have h := o_41c; simpa using h)), hS.pick [1, 2, 3, 4]⟩
      omega
   ·
    refine K.x ((((j : Nat) : Int) : Int) < (((xs.length : Nat) : Int) : Int)) h_13 ?_
    refine K.z (K.t (K.f ?_))
    refine K.KW.exit ?_
    refine K.thn_exit ?_
    refine K.thn_exit ?_
    refine K.blk_hit ?_
    refine K.t (K.s (K.s (K.g (K.q [.bool false, .bool true] (K.z (K.t (K.h (K.g (K.q [.slice q1 o.length c1] ?_)))))))))
    refine K.a (K.QR.ldN [.int .u32 k, .int .u32 vv] rfl rfl (by kernel_rfl) (by kernel_rfl) (K.cells (K.cl ((hS.blk 1 rfl hg_3).cell rfl) (K.cl ((hS.blk 1 rfl hg_3).cell rfl) K.cl0)))) ?_
    refine K.l (K.OW.gbs [(0, .agg #[.int .u32 k, .int .u32 vv])] [.int .u32 k, .int .u32 vv] hS (fun w => K.bs_run (P := Try.prog) w 28 59 1 _ _ Try.underlying28 (by kernel_rfl)) ?_)
    clear hS; intro w r_43 g_44 hg_45 hS
    refine K.l (K.OW.gapp (P := Try.prog) (xs := (o).flatMap cPair) (z := .agg #[.int .u32 0, .int .u32 0]) (size := 2) (bytes := 8) 1 [.int .u32 k, .int .u32 vv] hS x_12 ?_ (fun j u hj => (by rw [Nat.zero_add]; exact (hS.blk 0 rfl hg_45).cell hj)) (K.one_cells (by rfl)) (by rfl) Try.underlying28 (by kernel_rfl) rfl (by decide) (by unfold maxLen; omega) (by omega))
    clear hS; intro a_46 cap_47 w l_48 o_49 hS
    have ln_50 : ((o ++ [(⟨k, vv⟩ : PairM)])).length = o.length + 1 := by rw [List.length_append]; rfl
    have o_49c := K.OwnG.cast (xs' := ((o ++ [(⟨k, vv⟩ : PairM)])).flatMap cPair) o_49 rfl (K.fl_snoc cPair o (⟨k, vv⟩ : PairM) rfl)
    replace hS : K.Sat w0 [g_44, l_48, g_2, gx, fr] w := hS
    refine K.q [.slice a_46 (o.length + 1) cap_47] (K.z (K.t (K.s (K.g (K.q [.slice a_46 (o.length + 1) cap_47, .slice a_46 (o.length + 1) cap_47] (K.z (K.t (K.r ?_))))))))
    have e : keysR PairM.key k (⟨k, vv⟩ : PairM) true xs = (o ++ [(⟨k, vv⟩ : PairM)]) := by rw [keysR_of hkf (by omega)]; rfl
    refine ⟨.inr rfl, rfl, (.slice a_46 (o.length + 1) cap_47), K.res1 rfl rfl, [gx, l_48], ?_, hS.pick [3, 1, 4]⟩
    exact ⟨a_46, cap_47, _, congrArg (fun m_ => Value.slice a_46 m_ cap_47) (by rw [e]; try omega : o.length + 1 = (keysR PairM.key k (⟨k, vv⟩ : PairM) true xs).length), rfl, by rw [e]; first | exact o_49c | (have h := o_49c; simpa using h)⟩
  ·
   refine K.s (K.s (K.g (K.q [K.iv ((j : Nat) : Int), .slice a xs.length cap] ?_)))
   refine K.a (K.QR.len (P := Try.prog) rfl rfl Try.underlying28) ?_
   by_cases h_51 : (((j : Nat) : Int) : Int) < (((xs.length : Nat) : Int) : Int)
   ·
    refine K.y ((((j : Nat) : Int) : Int) < (((xs.length : Nat) : Int) : Int)) h_51 ?_
    refine K.z (K.t (K.h (K.k (K.t (K.s ?_)))))
    refine K.KW.block ?_
    refine K.s (K.s ?_)
    obtain ⟨b_52, of_53, rfl, _⟩ := (hx _ (hS.pick [2])).at_ (by omega)
    refine K.KW.gdrawn [] hS (by kernel_rfl) ?_
    clear hS; intro w hS
    refine K.b 0 rfl (.bool true) (hS.pick []) ?_
    refine K.b 1 rfl (.bool false) (hS.pick []) ?_
    refine K.b 2 rfl (.bool false) (hS.pick []) ?_
    refine K.w_ 3 rfl (hS.pick []) ?_
    refine K.w_ 4 rfl (hS.pick []) ?_
    refine K.w_ 5 rfl (hS.pick []) ?_
    refine K.w_ 6 rfl (hS.pick []) ?_
    refine K.w_ 7 rfl (hS.pick []) ?_
    refine K.w_ 8 rfl (hS.pick []) ?_
    refine K.w_ 9 rfl (hS.pick []) ?_
    refine K.w_ 10 rfl (hS.pick []) ?_
    refine K.b 11 rfl (.bool false) (hS.pick []) ?_
    refine K.DW.done (by kernel_rfl) ?_
    refine K.t (K.f (K.k (K.t (K.s ?_))))
    refine K.KW.gdrawn [2] hS (by kernel_rfl) ?_
    clear hS; intro w hS
    refine K.p 0 rfl (.slice (some ⟨b_52, of_53, none⟩) xs.length cap) (hS.pick [2]) ?_
    refine K.p 1 rfl (K.iv ((j : Nat) : Int)) (hS.pick [2]) ?_
    refine K.m 2 rfl (fun w hS => K.QR.ix (of_53 + j * 2) 2 rfl rfl rfl Try.underlying28 (by kernel_rfl) (by omega) (by first | (simp; done) | omega | (simp; omega))) (hS.pick [2]) ?_
    refine K.p 3 rfl (.pointer (some ⟨b_52, of_53 + j * 2, none⟩)) (hS.pick [2]) ?_
    refine K.o_ 4 rfl (.int .u32 ((xs.getD j p0).key)) (fun w hS => ((hx _ (hS.pick [0])).ld j (by omega) 0 _ rfl)) (hS.pick [2]) ?_
    refine K.b 5 rfl (K.pa r_1) (hS.pick [2]) ?_
    refine K.c 6 rfl (K.QR.ld1 (v := .int .u32 k) rfl rfl (by kernel_rfl) ((hS.blk 1 rfl hg_3).cell rfl)) (hS.pick [2]) ?_
    by_cases h_54 : ((xs.getD j p0).key : Int) = (k : Int)
    ·
     refine K.c 7 rfl (K.QR.nice (v := .bool (((xs.getD j p0).key : Int) != (k : Int))) (by kernel_rfl) (congrArg Value.bool (bne_eq_false_iff_eq.2 h_54))) (hS.pick [2]) ?_
     refine K.DW.done (by kernel_rfl) ?_
     refine K.t (K.f (K.k ?_))
     refine K.blk_normal ?_
     refine K.t (K.g (K.q [K.iv ((j : Nat) : Int)] ?_))
     refine K.a (K.QR.n64 ((((j : Nat) : Int) : Int) + (1 : Int)) ((j + 1 : Nat) : Int) (by kernel_rfl) (by omega)) ?_
     refine K.q [K.iv ((j + 1 : Nat) : Int)] (K.z (K.t ?_))
     refine ⟨_, ?_, j + 1, o, true, q1, c1, o1, rfl, ⟨by rfl, by rfl, by rfl, by rfl, by rfl, congrArg (fun m_ => Value.slice q1 m_ c1) (by first | rfl | omega : o.length = (o).length), by rfl, by rfl, by rfl, trivial⟩, (by omega), (keysF_next (d := p0) hkf (by omega) (kstep_de (by assumption))), (by omega), (by first | exact x_12 | (have h := x_12; simpa using h)), hS.pick [0, 1, 2, 3]⟩
     omega
    ·
     refine K.c 7 rfl (K.QR.nice (v := .bool (((xs.getD j p0).key : Int) != (k : Int))) (by kernel_rfl) (congrArg Value.bool (bne_iff_ne.2 h_54))) (hS.pick [2]) ?_
     refine K.DW.done (by kernel_rfl) ?_
     refine K.t (K.h (K.g (K.q [.slice q1 o.length c1, .slice (some ⟨b_52, of_53, none⟩) xs.length cap, K.iv ((j : Nat) : Int)] ?_)))
     refine K.a (K.QR.ix (of_53 + j * 2) 2 rfl rfl rfl Try.underlying28 (by kernel_rfl) (by omega) (by first | (simp; done) | omega | (simp; omega))) ?_
     refine K.a (K.QR.ldN [.int .u32 ((xs.getD j p0).key), .int .u32 ((xs.getD j p0).val)] rfl rfl (by kernel_rfl) (by kernel_rfl) (K.cells (K.cl ((hx _ (hS.pick [2])).ld j (by omega) 0 _ rfl) (K.cl ((hx _ (hS.pick [2])).ld j (by omega) 1 _ rfl) K.cl0)))) ?_
     refine K.l (K.OW.gbs [(0, .agg #[.int .u32 ((xs.getD j p0).key), .int .u32 ((xs.getD j p0).val)])] [.int .u32 ((xs.getD j p0).key), .int .u32 ((xs.getD j p0).val)] hS (fun w => K.bs_run (P := Try.prog) w 28 59 1 _ _ Try.underlying28 (by kernel_rfl)) ?_)
     clear hS; intro w r_55 g_56 hg_57 hS
     refine K.l (K.OW.gapp (P := Try.prog) (xs := (o).flatMap cPair) (z := .agg #[.int .u32 0, .int .u32 0]) (size := 2) (bytes := 8) 1 [.int .u32 ((xs.getD j p0).key), .int .u32 ((xs.getD j p0).val)] hS x_12 ?_ (fun j u hj => (by rw [Nat.zero_add]; exact (hS.blk 0 rfl hg_57).cell hj)) (K.one_cells (by rfl)) (by rfl) Try.underlying28 (by kernel_rfl) rfl (by decide) (by unfold maxLen; omega) (by omega))
     clear hS; intro a_58 cap_59 w l_60 o_61 hS
     have ln_62 : ((o ++ [(⟨(xs.getD j p0).key, (xs.getD j p0).val⟩ : PairM)])).length = o.length + 1 := by rw [List.length_append]; rfl
     have o_61c := K.OwnG.cast (xs' := ((o ++ [(⟨(xs.getD j p0).key, (xs.getD j p0).val⟩ : PairM)])).flatMap cPair) o_61 rfl (K.fl_snoc cPair o (⟨(xs.getD j p0).key, (xs.getD j p0).val⟩ : PairM) rfl)
     replace hS : K.Sat w0 [g_56, l_60, g_2, gx, fr] w := hS
     refine K.q [.slice a_58 (o.length + 1) cap_59] (K.z ?_)
     refine K.blk_normal ?_
     refine K.t (K.g (K.q [K.iv ((j : Nat) : Int)] ?_))
     refine K.a (K.QR.n64 ((((j : Nat) : Int) : Int) + (1 : Int)) ((j + 1 : Nat) : Int) (by kernel_rfl) (by omega)) ?_
     refine K.q [K.iv ((j + 1 : Nat) : Int)] (K.z (K.t ?_))
     refine ⟨_, ?_, j + 1, (o ++ [(⟨(xs.getD j p0).key, (xs.getD j p0).val⟩ : PairM)]), true, a_58, cap_59, l_60, rfl, ⟨by rfl, by rfl, by rfl, by rfl, by rfl, congrArg (fun m_ => Value.slice a_58 m_ cap_59) (by first | rfl | omega : o.length + 1 = ((o ++ [(⟨(xs.getD j p0).key, (xs.getD j p0).val⟩ : PairM)])).length), by rfl, by rfl, by rfl, trivial⟩, (by omega), (keysF_next (d := p0) hkf (by omega) (kstep_dn (by assumption))), (by omega), (by first | exact o_61c | (have h := o_61c; simpa using h)), hS.pick [1, 2, 3, 4]⟩
     omega
   ·
    refine K.x ((((j : Nat) : Int) : Int) < (((xs.length : Nat) : Int) : Int)) h_51 ?_
    refine K.z (K.t (K.f ?_))
    refine K.KW.exit ?_
    refine K.thn_exit ?_
    refine K.thn_exit ?_
    refine K.blk_hit ?_
    refine K.t (K.s (K.s (K.g (K.q [.bool true, .bool false] (K.z (K.t (K.f (K.k (K.t (K.s (K.g (K.q [.slice q1 o.length c1, .slice q1 o.length c1] (K.z (K.t ?_))))))))))))))
    refine K.r ?_
    have e : keysR PairM.key k (⟨k, vv⟩ : PairM) true xs = o := by rw [keysR_of hkf (by omega)]; rfl
    refine ⟨.inr rfl, rfl, (.slice q1 o.length c1), K.res1 rfl rfl, [gx, o1], ?_, hS.pick [2, 0, 3]⟩
    exact ⟨q1, c1, _, congrArg (fun m_ => Value.slice q1 m_ c1) (by rw [e]; try omega : o.length = (keysR PairM.key k (⟨k, vv⟩ : PairM) true xs).length), rfl, by rw [e]; first | exact x_12 | (have h := x_12; simpa using h)⟩
set_option maxHeartbeats 1000000 in
set_option maxRecDepth 100000 in
theorem prsF_ok (w0 : World) (a : Option Addr) (cap : Nat) (xs : List PairM) (k : Int) (vv : Int) (hm : xs.length ≤ 1000000) (gx : K.Cs) (hx : ∀ w, K.Sat w0 [gx] w → K.RowE w a xs.length 2 (fun i => cPair (xs.getD i p0))) :
  K.GC Try.prog w0 49 #[.slice a xs.length cap, .agg #[.int .u32 k, .int .u32 vv], .bool false] [gx] (fun v post => ∃ r c l2, v = .slice r (keysR PairM.key k (⟨k, vv⟩ : PairM) false xs).length c ∧ post = [gx, l2] ∧ K.OwnG l2 59 2 r (keysR PairM.key k (⟨k, vv⟩ : PairM) false xs).length c ((keysR PairM.key k (⟨k, vv⟩ : PairM) false xs).flatMap cPair)) := by
 refine K.GC.mk (n := 56) Try.func49 rfl rfl [.slice a xs.length cap, .agg #[.int .u32 k, .int .u32 vv], .bool false] rfl rfl ?_
 intro fr w hS
 replace hS : K.Sat w0 [gx, fr] w := hS
 refine K.s (K.g ?_)
 refine K.l (K.OW.gnew 59 [.int .u32 k, .int .u32 vv] hS ?_)
 clear hS; intro w r_1 g_2 hg_3 hS
 refine K.q [.slice none 0 0] (K.z (K.t (K.s (K.g (K.q [.slice none 0 0] (K.z (K.t (K.s (K.g (K.q [.bool false, .bool true, .bool true] (K.z (K.t (K.s (K.s ?_))))))))))))))
 refine K.g (K.q [K.iv 0] (K.z (K.t ?_)))
 refine K.KW.block ?_
 obtain ⟨z_4, hz_5⟩ : ∃ z : K.Cs, z = [] := ⟨_, rfl⟩
 replace hS : K.Sat w0 [z_4, g_2, gx, fr] w := hS.of (by simp [hz_5])
 have o_6 : K.OwnG z_4 59 2 none 0 0 [] := by rw [hz_5]; exact K.OwnG.nil _ _
 refine K.KW.loop (fun m_ F_ w_ => ∃ (j : Nat) (o : List PairM) (f : Bool) (q1 : Option Addr) (c1 : Nat) (o1 : K.Cs), m_ = xs.length - j ∧ K.Sl F_ [(0, .slice a xs.length cap), (1, .agg #[.int .u32 k, .int .u32 vv]), (2, .bool false), (4, K.pa r_1), (6, .slice none 0 0), (7, .slice q1 o.length c1), (8, .bool f), (9, K.iv ((j : Nat) : Int)), (56, undef)] ∧ j ≤ xs.length ∧ keysF PairM.key k (⟨k, vv⟩ : PairM) false (xs.take j) = (o, f) ∧ o.length ≤ 2 * j ∧ K.OwnG o1 59 2 q1 o.length c1 ((o).flatMap cPair) ∧ K.Sat w0 [o1, g_2, gx, fr] w_) ((fun (j : Nat) (o : List PairM) (f : Bool) (q1 : Option Addr) (c1 : Nat) => xs.length - j) 0 [] true none 0) ?_ ?_
 ·
  exact ⟨0, [], true, none, 0, z_4, rfl, ⟨by rfl, by rfl, by rfl, by rfl, by rfl, by rfl, by rfl, by rfl, by rfl, trivial⟩, (by omega), (rfl), (by exact Nat.le_refl 0), o_6, hS.pick [0, 1, 2, 3]⟩
 ·
  clear hS
  intro m_7 F_8 w hI
  obtain ⟨j, o, f, q1, c1, o1, rfl, sl_9, p_10, hkf, p_11, x_12, hS⟩ := hI
  rw [← K.Sl.puts sl_9]; clear sl_9
  cases f
  ·
   refine K.s (K.s (K.g (K.q [K.iv ((j : Nat) : Int), .slice a xs.length cap] ?_)))
   refine K.a (K.QR.len (P := Try.prog) rfl rfl Try.underlying28) ?_
   by_cases h_13 : (((j : Nat) : Int) : Int) < (((xs.length : Nat) : Int) : Int)
   ·
    refine K.y ((((j : Nat) : Int) : Int) < (((xs.length : Nat) : Int) : Int)) h_13 ?_
    refine K.z (K.t (K.h (K.k (K.t (K.s ?_)))))
    refine K.KW.block ?_
    refine K.s (K.s ?_)
    obtain ⟨b_14, of_15, rfl, _⟩ := (hx _ (hS.pick [2])).at_ (by omega)
    refine K.KW.gdrawn [2] hS (by kernel_rfl) ?_
    clear hS; intro w hS
    refine K.b 0 rfl (.bool false) (hS.pick [2]) ?_
    refine K.b 1 rfl (.bool true) (hS.pick [2]) ?_
    refine K.b 2 rfl (.bool true) (hS.pick [2]) ?_
    refine K.p 3 rfl (.slice (some ⟨b_14, of_15, none⟩) xs.length cap) (hS.pick [2]) ?_
    refine K.p 4 rfl (K.iv ((j : Nat) : Int)) (hS.pick [2]) ?_
    refine K.m 5 rfl (fun w hS => K.QR.ix (of_15 + j * 2) 2 rfl rfl rfl Try.underlying28 (by kernel_rfl) (by omega) (by first | (simp; done) | omega | (simp; omega))) (hS.pick [2]) ?_
    refine K.p 6 rfl (.pointer (some ⟨b_14, of_15 + j * 2, none⟩)) (hS.pick [2]) ?_
    refine K.o_ 7 rfl (.int .u32 ((xs.getD j p0).key)) (fun w hS => ((hx _ (hS.pick [0])).ld j (by omega) 0 _ rfl)) (hS.pick [2]) ?_
    refine K.b 8 rfl (K.pa r_1) (hS.pick [2]) ?_
    refine K.c 9 rfl (K.QR.ld1 (v := .int .u32 k) rfl rfl (by kernel_rfl) ((hS.blk 1 rfl hg_3).cell rfl)) (hS.pick [2]) ?_
    by_cases h_16 : ((xs.getD j p0).key : Int) > (k : Int)
    ·
     refine K.c 10 rfl (K.QR.nice (v := .bool (decide (((xs.getD j p0).key : Int) > (k : Int)))) (by kernel_rfl) (congrArg Value.bool (decide_eq_true h_16))) (hS.pick [2]) ?_
     refine K.b 11 rfl (.bool true) (hS.pick [2]) ?_
     refine K.DW.done (by kernel_rfl) ?_
     refine K.t (K.h (K.s (K.g (K.q [.slice q1 o.length c1] ?_))))
     refine K.a (K.QR.ldN [.int .u32 k, .int .u32 vv] rfl rfl (by kernel_rfl) (by kernel_rfl) (K.cells (K.cl ((hS.blk 1 rfl hg_3).cell rfl) (K.cl ((hS.blk 1 rfl hg_3).cell rfl) K.cl0)))) ?_
     refine K.l (K.OW.gbs [(0, .agg #[.int .u32 k, .int .u32 vv])] [.int .u32 k, .int .u32 vv] hS (fun w => K.bs_run (P := Try.prog) w 28 59 1 _ _ Try.underlying28 (by kernel_rfl)) ?_)
     clear hS; intro w r_17 g_18 hg_19 hS
     refine K.l (K.OW.gapp (P := Try.prog) (xs := (o).flatMap cPair) (z := .agg #[.int .u32 0, .int .u32 0]) (size := 2) (bytes := 8) 1 [.int .u32 k, .int .u32 vv] hS x_12 ?_ (fun j u hj => (by rw [Nat.zero_add]; exact (hS.blk 0 rfl hg_19).cell hj)) (K.one_cells (by rfl)) (by rfl) Try.underlying28 (by kernel_rfl) rfl (by decide) (by unfold maxLen; omega) (by omega))
     clear hS; intro a_20 cap_21 w l_22 o_23 hS
     have ln_24 : ((o ++ [(⟨k, vv⟩ : PairM)])).length = o.length + 1 := by rw [List.length_append]; rfl
     have o_23c := K.OwnG.cast (xs' := ((o ++ [(⟨k, vv⟩ : PairM)])).flatMap cPair) o_23 rfl (K.fl_snoc cPair o (⟨k, vv⟩ : PairM) rfl)
     replace hS : K.Sat w0 [g_18, l_22, g_2, gx, fr] w := hS
     refine K.q [.slice a_20 (o.length + 1) cap_21] (K.z (K.t (K.g (K.q [.bool true] (K.z (K.t (K.s ?_)))))))
     refine K.KW.gdrawn [3] hS (by kernel_rfl) ?_
     clear hS; intro w hS
     refine K.p 0 rfl (.slice (some ⟨b_14, of_15, none⟩) xs.length cap) (hS.pick [3]) ?_
     refine K.p 1 rfl (K.iv ((j : Nat) : Int)) (hS.pick [3]) ?_
     refine K.m 2 rfl (fun w hS => K.QR.ix (of_15 + j * 2) 2 rfl rfl rfl Try.underlying28 (by kernel_rfl) (by omega) (by first | (simp; done) | omega | (simp; omega))) (hS.pick [3]) ?_
     refine K.p 3 rfl (.pointer (some ⟨b_14, of_15 + j * 2, none⟩)) (hS.pick [3]) ?_
     refine K.o_ 4 rfl (.int .u32 ((xs.getD j p0).key)) (fun w hS => ((hx _ (hS.pick [0])).ld j (by omega) 0 _ rfl)) (hS.pick [3]) ?_
     refine K.b 5 rfl (K.pa r_1) (hS.pick [3]) ?_
     refine K.c 6 rfl (K.QR.ld1 (v := .int .u32 k) rfl rfl (by kernel_rfl) ((hS.blk 2 rfl hg_3).cell rfl)) (hS.pick [3]) ?_
     by_cases h_25 : ((xs.getD j p0).key : Int) = (k : Int)
     ·
      refine K.c 7 rfl (K.QR.nice (v := .bool (((xs.getD j p0).key : Int) != (k : Int))) (by kernel_rfl) (congrArg Value.bool (bne_eq_false_iff_eq.2 h_25))) (hS.pick [3]) ?_
      refine K.DW.done (by kernel_rfl) ?_
      refine K.t (K.f (K.k ?_))
      refine K.blk_normal ?_
      refine K.t (K.g (K.q [K.iv ((j : Nat) : Int)] ?_))
      refine K.a (K.QR.n64 ((((j : Nat) : Int) : Int) + (1 : Int)) ((j + 1 : Nat) : Int) (by kernel_rfl) (by omega)) ?_
      refine K.q [K.iv ((j + 1 : Nat) : Int)] (K.z (K.t ?_))
      refine ⟨_, ?_, j + 1, (o ++ [(⟨k, vv⟩ : PairM)]), true, a_20, cap_21, l_22, rfl, ⟨by rfl, by rfl, by rfl, by rfl, by rfl, congrArg (fun m_ => Value.slice a_20 m_ cap_21) (by first | rfl | omega : o.length + 1 = ((o ++ [(⟨k, vv⟩ : PairM)])).length), by rfl, by rfl, by rfl, trivial⟩, (by omega), (by exfalso; omega), (by omega), (by first | exact o_23c | (have h := o_23c; simpa using h)), hS.pick [1, 2, 3, 4]⟩
      omega
     ·
      refine K.c 7 rfl (K.QR.nice (v := .bool (((xs.getD j p0).key : Int) != (k : Int))) (by kernel_rfl) (congrArg Value.bool (bne_iff_ne.2 h_25))) (hS.pick [3]) ?_
      refine K.DW.done (by kernel_rfl) ?_
      refine K.t (K.h (K.g (K.q [.slice a_20 (o.length + 1) cap_21, .slice (some ⟨b_14, of_15, none⟩) xs.length cap, K.iv ((j : Nat) : Int)] ?_)))
      refine K.a (K.QR.ix (of_15 + j * 2) 2 rfl rfl rfl Try.underlying28 (by kernel_rfl) (by omega) (by first | (simp; done) | omega | (simp; omega))) ?_
      refine K.a (K.QR.ldN [.int .u32 ((xs.getD j p0).key), .int .u32 ((xs.getD j p0).val)] rfl rfl (by kernel_rfl) (by kernel_rfl) (K.cells (K.cl ((hx _ (hS.pick [3])).ld j (by omega) 0 _ rfl) (K.cl ((hx _ (hS.pick [3])).ld j (by omega) 1 _ rfl) K.cl0)))) ?_
      refine K.l (K.OW.gbs [(0, .agg #[.int .u32 ((xs.getD j p0).key), .int .u32 ((xs.getD j p0).val)])] [.int .u32 ((xs.getD j p0).key), .int .u32 ((xs.getD j p0).val)] hS (fun w => K.bs_run (P := Try.prog) w 28 59 1 _ _ Try.underlying28 (by kernel_rfl)) ?_)
      clear hS; intro w r_26 g_27 hg_28 hS
      refine K.l (K.OW.gapp (P := Try.prog) (xs := ((o ++ [(⟨k, vv⟩ : PairM)])).flatMap cPair) (z := .agg #[.int .u32 0, .int .u32 0]) (size := 2) (bytes := 8) 2 [.int .u32 ((xs.getD j p0).key), .int .u32 ((xs.getD j p0).val)] hS o_23c ?_ (fun j u hj => (by rw [Nat.zero_add]; exact (hS.blk 0 rfl hg_28).cell hj)) (K.one_cells (by rfl)) (by rfl) Try.underlying28 (by kernel_rfl) rfl (by decide) (by unfold maxLen; omega) (by omega))
      clear hS; intro a_29 cap_30 w l_31 o_32 hS
      have ln_33 : (((o ++ [(⟨k, vv⟩ : PairM)]) ++ [(⟨(xs.getD j p0).key, (xs.getD j p0).val⟩ : PairM)])).length = o.length + 1 + 1 := by rw [List.length_append, ln_24]; rfl
      have o_32c := K.OwnG.cast (xs' := (((o ++ [(⟨k, vv⟩ : PairM)]) ++ [(⟨(xs.getD j p0).key, (xs.getD j p0).val⟩ : PairM)])).flatMap cPair) o_32 rfl (K.fl_snoc cPair (o ++ [(⟨k, vv⟩ : PairM)]) (⟨(xs.getD j p0).key, (xs.getD j p0).val⟩ : PairM) rfl)
      replace hS : K.Sat w0 [g_27, g_18, l_31, g_2, gx, fr] w := hS
      refine K.q [.slice a_29 (o.length + 1 + 1) cap_30] (K.z ?_)
      refine K.blk_normal ?_
      refine K.t (K.g (K.q [K.iv ((j : Nat) : Int)] ?_))
      refine K.a (K.QR.n64 ((((j : Nat) : Int) : Int) + (1 : Int)) ((j + 1 : Nat) : Int) (by kernel_rfl) (by omega)) ?_
      refine K.q [K.iv ((j + 1 : Nat) : Int)] (K.z (K.t ?_))
      refine ⟨_, ?_, j + 1, ((o ++ [(⟨k, vv⟩ : PairM)]) ++ [(⟨(xs.getD j p0).key, (xs.getD j p0).val⟩ : PairM)]), true, a_29, cap_30, l_31, rfl, ⟨by rfl, by rfl, by rfl, by rfl, by rfl, congrArg (fun m_ => Value.slice a_29 m_ cap_30) (by first | rfl | omega : o.length + 1 + 1 = (((o ++ [(⟨k, vv⟩ : PairM)]) ++ [(⟨(xs.getD j p0).key, (xs.getD j p0).val⟩ : PairM)])).length), by rfl, by rfl, by rfl, trivial⟩, (by omega), (keysF_next (d := p0) hkf (by omega) (kstep_gt (by assumption))), (by omega), (by first | exact o_32c | (have h := o_32c; simpa using h)), hS.pick [2, 3, 4, 5]⟩
      omega
    ·
     refine K.c 10 rfl (K.QR.nice (v := .bool (decide (((xs.getD j p0).key : Int) > (k : Int)))) (by kernel_rfl) (congrArg Value.bool (decide_eq_false h_16))) (hS.pick [2]) ?_
     refine K.b 11 rfl (.bool false) (hS.pick [2]) ?_
     refine K.DW.done (by kernel_rfl) ?_
     refine K.t (K.f (K.k (K.t (K.s ?_))))
     refine K.KW.gdrawn [2] hS (by kernel_rfl) ?_
     clear hS; intro w hS
     refine K.p 0 rfl (.slice (some ⟨b_14, of_15, none⟩) xs.length cap) (hS.pick [2]) ?_
     refine K.p 1 rfl (K.iv ((j : Nat) : Int)) (hS.pick [2]) ?_
     refine K.m 2 rfl (fun w hS => K.QR.ix (of_15 + j * 2) 2 rfl rfl rfl Try.underlying28 (by kernel_rfl) (by omega) (by first | (simp; done) | omega | (simp; omega))) (hS.pick [2]) ?_
     refine K.p 3 rfl (.pointer (some ⟨b_14, of_15 + j * 2, none⟩)) (hS.pick [2]) ?_
     refine K.o_ 4 rfl (.int .u32 ((xs.getD j p0).key)) (fun w hS => ((hx _ (hS.pick [0])).ld j (by omega) 0 _ rfl)) (hS.pick [2]) ?_
     refine K.b 5 rfl (K.pa r_1) (hS.pick [2]) ?_
     refine K.c 6 rfl (K.QR.ld1 (v := .int .u32 k) rfl rfl (by kernel_rfl) ((hS.blk 1 rfl hg_3).cell rfl)) (hS.pick [2]) ?_
     by_cases h_34 : ((xs.getD j p0).key : Int) = (k : Int)
     ·
      refine K.c 7 rfl (K.QR.nice (v := .bool (((xs.getD j p0).key : Int) != (k : Int))) (by kernel_rfl) (congrArg Value.bool (bne_eq_false_iff_eq.2 h_34))) (hS.pick [2]) ?_
      refine K.DW.done (by kernel_rfl) ?_
      refine K.t (K.f (K.k ?_))
      refine K.blk_normal ?_
      refine K.t (K.g (K.q [K.iv ((j : Nat) : Int)] ?_))
      refine K.a (K.QR.n64 ((((j : Nat) : Int) : Int) + (1 : Int)) ((j + 1 : Nat) : Int) (by kernel_rfl) (by omega)) ?_
      refine K.q [K.iv ((j + 1 : Nat) : Int)] (K.z (K.t ?_))
      refine ⟨_, ?_, j + 1, o, false, q1, c1, o1, rfl, ⟨by rfl, by rfl, by rfl, by rfl, by rfl, congrArg (fun m_ => Value.slice q1 m_ c1) (by first | rfl | omega : o.length = (o).length), by rfl, by rfl, by rfl, trivial⟩, (by omega), (keysF_next (d := p0) hkf (by omega) (kstep_eq (by assumption))), (by omega), (by first | exact x_12 | (have h := x_12; simpa using h)), hS.pick [0, 1, 2, 3]⟩
      omega
     ·
      refine K.c 7 rfl (K.QR.nice (v := .bool (((xs.getD j p0).key : Int) != (k : Int))) (by kernel_rfl) (congrArg Value.bool (bne_iff_ne.2 h_34))) (hS.pick [2]) ?_
      refine K.DW.done (by kernel_rfl) ?_
      refine K.t (K.h (K.g (K.q [.slice q1 o.length c1, .slice (some ⟨b_14, of_15, none⟩) xs.length cap, K.iv ((j : Nat) : Int)] ?_)))
      refine K.a (K.QR.ix (of_15 + j * 2) 2 rfl rfl rfl Try.underlying28 (by kernel_rfl) (by omega) (by first | (simp; done) | omega | (simp; omega))) ?_
      refine K.a (K.QR.ldN [.int .u32 ((xs.getD j p0).key), .int .u32 ((xs.getD j p0).val)] rfl rfl (by kernel_rfl) (by kernel_rfl) (K.cells (K.cl ((hx _ (hS.pick [2])).ld j (by omega) 0 _ rfl) (K.cl ((hx _ (hS.pick [2])).ld j (by omega) 1 _ rfl) K.cl0)))) ?_
      refine K.l (K.OW.gbs [(0, .agg #[.int .u32 ((xs.getD j p0).key), .int .u32 ((xs.getD j p0).val)])] [.int .u32 ((xs.getD j p0).key), .int .u32 ((xs.getD j p0).val)] hS (fun w => K.bs_run (P := Try.prog) w 28 59 1 _ _ Try.underlying28 (by kernel_rfl)) ?_)
      clear hS; intro w r_35 g_36 hg_37 hS
      refine K.l (K.OW.gapp (P := Try.prog) (xs := (o).flatMap cPair) (z := .agg #[.int .u32 0, .int .u32 0]) (size := 2) (bytes := 8) 1 [.int .u32 ((xs.getD j p0).key), .int .u32 ((xs.getD j p0).val)] hS x_12 ?_ (fun j u hj => (by rw [Nat.zero_add]; exact (hS.blk 0 rfl hg_37).cell hj)) (K.one_cells (by rfl)) (by rfl) Try.underlying28 (by kernel_rfl) rfl (by decide) (by unfold maxLen; omega) (by omega))
      clear hS; intro a_38 cap_39 w l_40 o_41 hS
      have ln_42 : ((o ++ [(⟨(xs.getD j p0).key, (xs.getD j p0).val⟩ : PairM)])).length = o.length + 1 := by rw [List.length_append]; rfl
      have o_41c := K.OwnG.cast (xs' := ((o ++ [(⟨(xs.getD j p0).key, (xs.getD j p0).val⟩ : PairM)])).flatMap cPair) o_41 rfl (K.fl_snoc cPair o (⟨(xs.getD j p0).key, (xs.getD j p0).val⟩ : PairM) rfl)
      replace hS : K.Sat w0 [g_36, l_40, g_2, gx, fr] w := hS
      refine K.q [.slice a_38 (o.length + 1) cap_39] (K.z ?_)
      refine K.blk_normal ?_
      refine K.t (K.g (K.q [K.iv ((j : Nat) : Int)] ?_))
      refine K.a (K.QR.n64 ((((j : Nat) : Int) : Int) + (1 : Int)) ((j + 1 : Nat) : Int) (by kernel_rfl) (by omega)) ?_
      refine K.q [K.iv ((j + 1 : Nat) : Int)] (K.z (K.t ?_))
      refine ⟨_, ?_, j + 1, (o ++ [(⟨(xs.getD j p0).key, (xs.getD j p0).val⟩ : PairM)]), false, a_38, cap_39, l_40, rfl, ⟨by rfl, by rfl, by rfl, by rfl, by rfl, congrArg (fun m_ => Value.slice a_38 m_ cap_39) (by first | rfl | omega : o.length + 1 = ((o ++ [(⟨(xs.getD j p0).key, (xs.getD j p0).val⟩ : PairM)])).length), by rfl, by rfl, by rfl, trivial⟩, (by omega), (keysF_next (d := p0) hkf (by omega) (kstep_lt (by assumption) (by assumption))), (by omega), (by first | exact o_41c | (have h := o_41c; simpa using h)), hS.pick [1, 2, 3, 4]⟩
      omega
   ·
    refine K.x ((((j : Nat) : Int) : Int) < (((xs.length : Nat) : Int) : Int)) h_13 ?_
    refine K.z (K.t (K.f ?_))
    refine K.KW.exit ?_
    refine K.thn_exit ?_
    refine K.thn_exit ?_
    refine K.blk_hit ?_
    refine K.t (K.s (K.s (K.g (K.q [.bool false, .bool true] (K.z (K.t (K.h (K.g (K.q [.slice q1 o.length c1] ?_)))))))))
    refine K.a (K.QR.ldN [.int .u32 k, .int .u32 vv] rfl rfl (by kernel_rfl) (by kernel_rfl) (K.cells (K.cl ((hS.blk 1 rfl hg_3).cell rfl) (K.cl ((hS.blk 1 rfl hg_3).cell rfl) K.cl0)))) ?_
    refine K.l (K.OW.gbs [(0, .agg #[.int .u32 k, .int .u32 vv])] [.int .u32 k, .int .u32 vv] hS (fun w => K.bs_run (P := Try.prog) w 28 59 1 _ _ Try.underlying28 (by kernel_rfl)) ?_)
    clear hS; intro w r_43 g_44 hg_45 hS
    refine K.l (K.OW.gapp (P := Try.prog) (xs := (o).flatMap cPair) (z := .agg #[.int .u32 0, .int .u32 0]) (size := 2) (bytes := 8) 1 [.int .u32 k, .int .u32 vv] hS x_12 ?_ (fun j u hj => (by rw [Nat.zero_add]; exact (hS.blk 0 rfl hg_45).cell hj)) (K.one_cells (by rfl)) (by rfl) Try.underlying28 (by kernel_rfl) rfl (by decide) (by unfold maxLen; omega) (by omega))
    clear hS; intro a_46 cap_47 w l_48 o_49 hS
    have ln_50 : ((o ++ [(⟨k, vv⟩ : PairM)])).length = o.length + 1 := by rw [List.length_append]; rfl
    have o_49c := K.OwnG.cast (xs' := ((o ++ [(⟨k, vv⟩ : PairM)])).flatMap cPair) o_49 rfl (K.fl_snoc cPair o (⟨k, vv⟩ : PairM) rfl)
    replace hS : K.Sat w0 [g_44, l_48, g_2, gx, fr] w := hS
    refine K.q [.slice a_46 (o.length + 1) cap_47] (K.z (K.t (K.s (K.g (K.q [.slice a_46 (o.length + 1) cap_47, .slice a_46 (o.length + 1) cap_47] (K.z (K.t (K.r ?_))))))))
    have e : keysR PairM.key k (⟨k, vv⟩ : PairM) false xs = (o ++ [(⟨k, vv⟩ : PairM)]) := by rw [keysR_of hkf (by omega)]; rfl
    refine ⟨.inr rfl, rfl, (.slice a_46 (o.length + 1) cap_47), K.res1 rfl rfl, [gx, l_48], ?_, hS.pick [3, 1, 4]⟩
    exact ⟨a_46, cap_47, _, congrArg (fun m_ => Value.slice a_46 m_ cap_47) (by rw [e]; try omega : o.length + 1 = (keysR PairM.key k (⟨k, vv⟩ : PairM) false xs).length), rfl, by rw [e]; first | exact o_49c | (have h := o_49c; simpa using h)⟩
  ·
   refine K.s (K.s (K.g (K.q [K.iv ((j : Nat) : Int), .slice a xs.length cap] ?_)))
   refine K.a (K.QR.len (P := Try.prog) rfl rfl Try.underlying28) ?_
   by_cases h_51 : (((j : Nat) : Int) : Int) < (((xs.length : Nat) : Int) : Int)
   ·
    refine K.y ((((j : Nat) : Int) : Int) < (((xs.length : Nat) : Int) : Int)) h_51 ?_
    refine K.z (K.t (K.h (K.k (K.t (K.s ?_)))))
    refine K.KW.block ?_
    refine K.s (K.s ?_)
    obtain ⟨b_52, of_53, rfl, _⟩ := (hx _ (hS.pick [2])).at_ (by omega)
    refine K.KW.gdrawn [] hS (by kernel_rfl) ?_
    clear hS; intro w hS
    refine K.b 0 rfl (.bool true) (hS.pick []) ?_
    refine K.b 1 rfl (.bool false) (hS.pick []) ?_
    refine K.b 2 rfl (.bool false) (hS.pick []) ?_
    refine K.w_ 3 rfl (hS.pick []) ?_
    refine K.w_ 4 rfl (hS.pick []) ?_
    refine K.w_ 5 rfl (hS.pick []) ?_
    refine K.w_ 6 rfl (hS.pick []) ?_
    refine K.w_ 7 rfl (hS.pick []) ?_
    refine K.w_ 8 rfl (hS.pick []) ?_
    refine K.w_ 9 rfl (hS.pick []) ?_
    refine K.w_ 10 rfl (hS.pick []) ?_
    refine K.b 11 rfl (.bool false) (hS.pick []) ?_
    refine K.DW.done (by kernel_rfl) ?_
    refine K.t (K.f (K.k (K.t (K.s ?_))))
    refine K.KW.gdrawn [2] hS (by kernel_rfl) ?_
    clear hS; intro w hS
    refine K.p 0 rfl (.slice (some ⟨b_52, of_53, none⟩) xs.length cap) (hS.pick [2]) ?_
    refine K.p 1 rfl (K.iv ((j : Nat) : Int)) (hS.pick [2]) ?_
    refine K.m 2 rfl (fun w hS => K.QR.ix (of_53 + j * 2) 2 rfl rfl rfl Try.underlying28 (by kernel_rfl) (by omega) (by first | (simp; done) | omega | (simp; omega))) (hS.pick [2]) ?_
    refine K.p 3 rfl (.pointer (some ⟨b_52, of_53 + j * 2, none⟩)) (hS.pick [2]) ?_
    refine K.o_ 4 rfl (.int .u32 ((xs.getD j p0).key)) (fun w hS => ((hx _ (hS.pick [0])).ld j (by omega) 0 _ rfl)) (hS.pick [2]) ?_
    refine K.b 5 rfl (K.pa r_1) (hS.pick [2]) ?_
    refine K.c 6 rfl (K.QR.ld1 (v := .int .u32 k) rfl rfl (by kernel_rfl) ((hS.blk 1 rfl hg_3).cell rfl)) (hS.pick [2]) ?_
    by_cases h_54 : ((xs.getD j p0).key : Int) = (k : Int)
    ·
     refine K.c 7 rfl (K.QR.nice (v := .bool (((xs.getD j p0).key : Int) != (k : Int))) (by kernel_rfl) (congrArg Value.bool (bne_eq_false_iff_eq.2 h_54))) (hS.pick [2]) ?_
     refine K.DW.done (by kernel_rfl) ?_
     refine K.t (K.f (K.k ?_))
     refine K.blk_normal ?_
     refine K.t (K.g (K.q [K.iv ((j : Nat) : Int)] ?_))
     refine K.a (K.QR.n64 ((((j : Nat) : Int) : Int) + (1 : Int)) ((j + 1 : Nat) : Int) (by kernel_rfl) (by omega)) ?_
     refine K.q [K.iv ((j + 1 : Nat) : Int)] (K.z (K.t ?_))
     refine ⟨_, ?_, j + 1, o, true, q1, c1, o1, rfl, ⟨by rfl, by rfl, by rfl, by rfl, by rfl, congrArg (fun m_ => Value.slice q1 m_ c1) (by first | rfl | omega : o.length = (o).length), by rfl, by rfl, by rfl, trivial⟩, (by omega), (keysF_next (d := p0) hkf (by omega) (kstep_de (by assumption))), (by omega), (by first | exact x_12 | (have h := x_12; simpa using h)), hS.pick [0, 1, 2, 3]⟩
     omega
    ·
     refine K.c 7 rfl (K.QR.nice (v := .bool (((xs.getD j p0).key : Int) != (k : Int))) (by kernel_rfl) (congrArg Value.bool (bne_iff_ne.2 h_54))) (hS.pick [2]) ?_
     refine K.DW.done (by kernel_rfl) ?_
     refine K.t (K.h (K.g (K.q [.slice q1 o.length c1, .slice (some ⟨b_52, of_53, none⟩) xs.length cap, K.iv ((j : Nat) : Int)] ?_)))
     refine K.a (K.QR.ix (of_53 + j * 2) 2 rfl rfl rfl Try.underlying28 (by kernel_rfl) (by omega) (by first | (simp; done) | omega | (simp; omega))) ?_
     refine K.a (K.QR.ldN [.int .u32 ((xs.getD j p0).key), .int .u32 ((xs.getD j p0).val)] rfl rfl (by kernel_rfl) (by kernel_rfl) (K.cells (K.cl ((hx _ (hS.pick [2])).ld j (by omega) 0 _ rfl) (K.cl ((hx _ (hS.pick [2])).ld j (by omega) 1 _ rfl) K.cl0)))) ?_
     refine K.l (K.OW.gbs [(0, .agg #[.int .u32 ((xs.getD j p0).key), .int .u32 ((xs.getD j p0).val)])] [.int .u32 ((xs.getD j p0).key), .int .u32 ((xs.getD j p0).val)] hS (fun w => K.bs_run (P := Try.prog) w 28 59 1 _ _ Try.underlying28 (by kernel_rfl)) ?_)
     clear hS; intro w r_55 g_56 hg_57 hS
     refine K.l (K.OW.gapp (P := Try.prog) (xs := (o).flatMap cPair) (z := .agg #[.int .u32 0, .int .u32 0]) (size := 2) (bytes := 8) 1 [.int .u32 ((xs.getD j p0).key), .int .u32 ((xs.getD j p0).val)] hS x_12 ?_ (fun j u hj => (by rw [Nat.zero_add]; exact (hS.blk 0 rfl hg_57).cell hj)) (K.one_cells (by rfl)) (by rfl) Try.underlying28 (by kernel_rfl) rfl (by decide) (by unfold maxLen; omega) (by omega))
     clear hS; intro a_58 cap_59 w l_60 o_61 hS
     have ln_62 : ((o ++ [(⟨(xs.getD j p0).key, (xs.getD j p0).val⟩ : PairM)])).length = o.length + 1 := by rw [List.length_append]; rfl
     have o_61c := K.OwnG.cast (xs' := ((o ++ [(⟨(xs.getD j p0).key, (xs.getD j p0).val⟩ : PairM)])).flatMap cPair) o_61 rfl (K.fl_snoc cPair o (⟨(xs.getD j p0).key, (xs.getD j p0).val⟩ : PairM) rfl)
     replace hS : K.Sat w0 [g_56, l_60, g_2, gx, fr] w := hS
     refine K.q [.slice a_58 (o.length + 1) cap_59] (K.z ?_)
     refine K.blk_normal ?_
     refine K.t (K.g (K.q [K.iv ((j : Nat) : Int)] ?_))
     refine K.a (K.QR.n64 ((((j : Nat) : Int) : Int) + (1 : Int)) ((j + 1 : Nat) : Int) (by kernel_rfl) (by omega)) ?_
     refine K.q [K.iv ((j + 1 : Nat) : Int)] (K.z (K.t ?_))
     refine ⟨_, ?_, j + 1, (o ++ [(⟨(xs.getD j p0).key, (xs.getD j p0).val⟩ : PairM)]), true, a_58, cap_59, l_60, rfl, ⟨by rfl, by rfl, by rfl, by rfl, by rfl, congrArg (fun m_ => Value.slice a_58 m_ cap_59) (by first | rfl | omega : o.length + 1 = ((o ++ [(⟨(xs.getD j p0).key, (xs.getD j p0).val⟩ : PairM)])).length), by rfl, by rfl, by rfl, trivial⟩, (by omega), (keysF_next (d := p0) hkf (by omega) (kstep_dn (by assumption))), (by omega), (by first | exact o_61c | (have h := o_61c; simpa using h)), hS.pick [1, 2, 3, 4]⟩
     omega
   ·
    refine K.x ((((j : Nat) : Int) : Int) < (((xs.length : Nat) : Int) : Int)) h_51 ?_
    refine K.z (K.t (K.f ?_))
    refine K.KW.exit ?_
    refine K.thn_exit ?_
    refine K.thn_exit ?_
    refine K.blk_hit ?_
    refine K.t (K.s (K.s (K.g (K.q [.bool true, .bool false] (K.z (K.t (K.f (K.k (K.t (K.s (K.g (K.q [.slice q1 o.length c1, .slice q1 o.length c1] (K.z (K.t ?_))))))))))))))
    refine K.r ?_
    have e : keysR PairM.key k (⟨k, vv⟩ : PairM) false xs = o := by rw [keysR_of hkf (by omega)]; rfl
    refine ⟨.inr rfl, rfl, (.slice q1 o.length c1), K.res1 rfl rfl, [gx, o1], ?_, hS.pick [2, 0, 3]⟩
    exact ⟨q1, c1, _, congrArg (fun m_ => Value.slice q1 m_ c1) (by rw [e]; try omega : o.length = (keysR PairM.key k (⟨k, vv⟩ : PairM) false xs).length), rfl, by rw [e]; first | exact x_12 | (have h := x_12; simpa using h)⟩
end Go.Proofs.Ytnehocjmgnhhhaa
