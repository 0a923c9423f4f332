import Derived.Test.YtnehocjmgnhhhaaFso25
import Derived.Test.YtnehocjmgnhhhaaKn
/- Witness: an order without those that are left out. -/
namespace Go.Proofs.Ytnehocjmgnhhhaa
open Go.RowKit
set_option linter.unusedVariables false
attribute [local irreducible] K.KW K.RW K.DW K.OW K.QR K.KC
set_option maxHeartbeats 16000000 in
set_option maxRecDepth 100000 in
theorem some_ok (w0 : World) (a b : Option Addr) (cap cb : Nat) (L : List CallM) (P : List Int) (mask : Nat) (hm : L.length ≤ 1000000) (hmk : mask ≤ 1000000) (hp : P.length ≤ 1000000) (gx : K.Cs) (hx : ∀ w, K.Sat w0 [gx] w → K.RowE w a L.length 11 (fun i => cCall (L.getD i call0))) (gp : K.Cs) (hpx : ∀ w, K.Sat w0 [gp] w → K.RowE w b P.length 1 (fun i => cI64 (P.getD i 0))) (hv : valP L P) :
  K.GC Try.prog w0 38 #[.slice a L.length cap, .slice b P.length cb, K.iv ((mask : Nat) : Int)] [gx, gp] (fun v post => (∃ g' ra c, post = [gx, gp, g'] ∧ v = .tuple #[.slice ra (filt mask P).length c, .bool true] ∧ K.OwnG g' 3 1 ra (filt mask P).length c ((filt mask P).flatMap cI64) ∧ ∀ q, q < P.length → okX L mask (P.getD q 0)) ∨ (post = [gx, gp] ∧ v = .tuple #[.slice none 0 0, .bool false] ∧ ¬ ∀ q, q < P.length → okX L mask (P.getD q 0))) := by
 refine K.GC.mk (n := 70) Try.func38 rfl rfl [.slice a L.length cap, .slice b P.length cb, K.iv ((mask : Nat) : Int)] rfl rfl ?_
 intro fr w hS
 replace hS : K.Sat w0 [gx, gp, fr] w := hS
 refine K.s (K.g (K.q [.slice none 0 0, .bool false] (K.z (K.t (K.s (K.g (K.q [.slice none 0 0] (K.z (K.t (K.s (K.s (K.g (K.q [K.iv 0] (K.z ?_))))))))))))))
 refine K.t ?_
 refine K.KW.block ?_
 obtain ⟨z_1, hz_2⟩ : ∃ z : K.Cs, z = [] := ⟨_, rfl⟩
 replace hS : K.Sat w0 [z_1, gx, gp, fr] w := hS.of (by simp [hz_2])
 have o_3 : K.OwnG z_1 3 1 none 0 0 [] := by rw [hz_2]; exact K.OwnG.nil _ _
 refine K.KW.loop (fun m_ F_ w_ => ∃ (i : Nat) (o : List Int) (q1 : Option Addr) (c1 : Nat) (o1 : K.Cs), m_ = 1000000 - i ∧ K.Sl F_ [(0, .slice a L.length cap), (1, .slice b P.length cb), (2, K.iv ((mask : Nat) : Int)), (8, .slice q1 o.length c1), (9, K.iv ((i : Nat) : Int)), (70, undef)] ∧ i ≤ P.length ∧ o = filt mask (P.take i) ∧ (∀ q, q < i → okX L mask (P.getD q 0)) ∧ o.length ≤ i ∧ K.OwnG o1 3 1 q1 o.length c1 ((o).flatMap cI64) ∧ K.Sat w0 [o1, gx, gp, fr] w_) ((fun (i : Nat) (o : List Int) (q1 : Option Addr) (c1 : Nat) => 1000000 - i) 0 [] none 0) ?_ ?_
 ·
  exact ⟨0, [], none, 0, z_1, rfl, ⟨by rfl, by rfl, by rfl, by rfl, by rfl, by rfl, trivial⟩, (by omega), (rfl), (fun q h => by omega), (by simp), o_3, hS.pick [0, 1, 2, 3]⟩
 ·
  clear hS
  intro m_4 F_5 w hI
  obtain ⟨i, o, q1, c1, o1, rfl, sl_6, p_7, ho, hok, hol, x_8, hS⟩ := hI
  rw [← K.Sl.puts sl_6]; clear sl_6
  refine K.s (K.s (K.g (K.q [K.iv ((i : Nat) : Int), .slice b P.length cb] ?_)))
  refine K.a (K.QR.len (P := Try.prog) rfl rfl Try.underlying23) ?_
  by_cases h_9 : (((i : Nat) : Int) : Int) < (((P.length : Nat) : Int) : Int)
  ·
   refine K.y ((((i : Nat) : Int) : Int) < (((P.length : Nat) : Int) : Int)) h_9 ?_
   refine K.z (K.t (K.h (K.k (K.t (K.s ?_)))))
   refine K.KW.block ?_
   refine K.s ?_
   have hvj := hv i (by omega)
   obtain ⟨b_10, of_11, rfl, _⟩ := (hpx _ (hS.pick [2])).at_ (by omega)
   obtain ⟨b_12, of_13, rfl, _⟩ := (hx _ (hS.pick [1])).at_ (by omega)
   refine K.g (K.q [.slice (some ⟨b_12, of_13, none⟩) L.length cap, .slice (some ⟨b_10, of_11, none⟩) P.length cb, K.iv ((i : Nat) : Int)] ?_)
   refine K.a (K.QR.ix (of_11 + i * 1) 1 rfl rfl rfl Try.underlying23 (by kernel_rfl) (by omega) (by first | (simp; done) | omega | (simp; omega))) ?_
   refine K.d (K.iv (P.getD i 0)) ((hpx _ (hS.pick [2])).ld i (by omega) 0 _ rfl) ?_
   refine K.a (K.QR.ix (of_13 + ((P.getD i 0).toNat) * 11) 11 rfl rfl rfl Try.underlying22 (by kernel_rfl) (by omega) (by first | (simp; done) | omega | (simp; omega))) ?_
   refine K.a (K.QR.ldN [K.iv ((L.getD ((P.getD i 0).toNat) call0).th), K.iv ((L.getD ((P.getD i 0).toNat) call0).ok), .int .u32 ((L.getD ((P.getD i 0).toNat) call0).key), .int .u32 ((L.getD ((P.getD i 0).toNat) call0).val), K.iv ((L.getD ((P.getD i 0).toNat) call0).rk), .int .u32 ((L.getD ((P.getD i 0).toNat) call0).rv), K.iv ((L.getD ((P.getD i 0).toNat) call0).beg), K.iv ((L.getD ((P.getD i 0).toNat) call0).en), K.iv ((L.getD ((P.getD i 0).toNat) call0).wh), .bool ((L.getD ((P.getD i 0).toNat) call0).cr), .bool ((L.getD ((P.getD i 0).toNat) call0).kp)] rfl rfl (by kernel_rfl) (by kernel_rfl) (K.cells (K.cl ((hx _ (hS.pick [1])).ld ((P.getD i 0).toNat) (by omega) 0 _ rfl) (K.cl ((hx _ (hS.pick [1])).ld ((P.getD i 0).toNat) (by omega) 1 _ rfl) (K.cl ((hx _ (hS.pick [1])).ld ((P.getD i 0).toNat) (by omega) 2 _ rfl) (K.cl ((hx _ (hS.pick [1])).ld ((P.getD i 0).toNat) (by omega) 3 _ rfl) (K.cl ((hx _ (hS.pick [1])).ld ((P.getD i 0).toNat) (by omega) 4 _ rfl) (K.cl ((hx _ (hS.pick [1])).ld ((P.getD i 0).toNat) (by omega) 5 _ rfl) (K.cl ((hx _ (hS.pick [1])).ld ((P.getD i 0).toNat) (by omega) 6 _ rfl) (K.cl ((hx _ (hS.pick [1])).ld ((P.getD i 0).toNat) (by omega) 7 _ rfl) (K.cl ((hx _ (hS.pick [1])).ld ((P.getD i 0).toNat) (by omega) 8 _ rfl) (K.cl ((hx _ (hS.pick [1])).ld ((P.getD i 0).toNat) (by omega) 9 _ rfl) (K.cl ((hx _ (hS.pick [1])).ld ((P.getD i 0).toNat) (by omega) 10 _ rfl) K.cl0))))))))))))) ?_
   refine K.l (K.OW.gnew 51 [K.iv 0, K.iv 0, .int .u32 0, .int .u32 0, K.iv 0, .int .u32 0, K.iv 0, K.iv 0, K.iv 0, .bool false, .bool false] hS ?_)
   clear hS; intro w r_14 g_15 hg_16 hS
   refine K.l (K.OW.gst 0 [K.iv ((L.getD ((P.getD i 0).toNat) call0).th), K.iv ((L.getD ((P.getD i 0).toNat) call0).ok), .int .u32 ((L.getD ((P.getD i 0).toNat) call0).key), .int .u32 ((L.getD ((P.getD i 0).toNat) call0).val), K.iv ((L.getD ((P.getD i 0).toNat) call0).rk), .int .u32 ((L.getD ((P.getD i 0).toNat) call0).rv), K.iv ((L.getD ((P.getD i 0).toNat) call0).beg), K.iv ((L.getD ((P.getD i 0).toNat) call0).en), K.iv ((L.getD ((P.getD i 0).toNat) call0).wh), .bool ((L.getD ((P.getD i 0).toNat) call0).cr), .bool ((L.getD ((P.getD i 0).toNat) call0).kp)] _ hS hg_16 ?_)
   clear hS; intro w g_17 hg_18 hS
   replace hS : K.Sat w0 [g_17, o1, gx, gp, fr] w := hS
   refine K.z (K.t (K.s (K.g (K.q [K.iv ((mask : Nat) : Int), K.iv ((mask : Nat) : Int)] (K.z (K.t (K.s (K.s (K.g (K.q [K.iv 0] (K.z (K.t ?_))))))))))))
   refine K.KW.block ?_
   refine K.KW.loop (fun m_ F_ w_ => ∃ (k : Nat) (bt : Nat), m_ = 1000000 - k ∧ K.Sl F_ [(0, .slice (some ⟨b_12, of_13, none⟩) L.length cap), (1, .slice (some ⟨b_10, of_11, none⟩) P.length cb), (2, K.iv ((mask : Nat) : Int)), (8, .slice q1 o.length c1), (9, K.iv ((i : Nat) : Int)), (10, K.pa r_14), (11, K.iv ((bt : Nat) : Int)), (12, K.iv ((k : Nat) : Int)), (70, undef)] ∧ ((k : Nat) : Int) ≤ P.getD i 0 ∧ bt = mask / 2 ^ k ∧ bt ≤ mask ∧ K.Sat w0 [g_17, o1, gx, gp, fr] w_) ((fun (k : Nat) (bt : Nat) => 1000000 - k) 0 mask) ?_ ?_
   ·
    exact ⟨0, mask, rfl, ⟨by rfl, by rfl, by rfl, by rfl, by rfl, by rfl, by rfl, by rfl, by rfl, trivial⟩, (by have hvj := hv i (by omega); omega), (by simp), (by omega), hS.pick [0, 1, 2, 3, 4]⟩
   ·
    clear hS
    intro m_19 F_20 w hI
    obtain ⟨k, bt, rfl, sl_21, p_22, hbt, p_23, hS⟩ := hI
    rw [← K.Sl.puts sl_21]; clear sl_21
    refine K.s (K.s ?_)
    have hvj := hv i (by omega)
    refine K.g (K.q [K.iv ((k : Nat) : Int), .slice (some ⟨b_10, of_11, none⟩) P.length cb, K.iv ((i : Nat) : Int)] ?_)
    refine K.a (K.QR.ix (of_11 + i * 1) 1 rfl rfl rfl Try.underlying23 (by kernel_rfl) (by omega) (by first | (simp; done) | omega | (simp; omega))) ?_
    refine K.d (K.iv (P.getD i 0)) ((hpx _ (hS.pick [3])).ld i (by omega) 0 _ rfl) ?_
    by_cases h_24 : (((k : Nat) : Int) : Int) < (P.getD i 0 : Int)
    ·
     refine K.y ((((k : Nat) : Int) : Int) < (P.getD i 0 : Int)) h_24 ?_
     refine K.z (K.t (K.h (K.k (K.t (K.s ?_)))))
     refine K.KW.block ?_
     refine K.g (K.q [K.iv ((bt : Nat) : Int)] ?_)
     refine K.a (K.QR.quoi64 (((bt : Nat) : Int) : Int) 2 ((bt / 2 : Nat) : Int) (by kernel_rfl) (by omega) (by omega)) ?_
     refine K.q [K.iv ((bt / 2 : Nat) : Int)] (K.z ?_)
     refine K.blk_normal ?_
     refine K.t (K.g (K.q [K.iv ((k : Nat) : Int)] ?_))
     refine K.a (K.QR.n64 ((((k : Nat) : Int) : Int) + (1 : Int)) ((k + 1 : Nat) : Int) (by kernel_rfl) (by omega)) ?_
     refine K.q [K.iv ((k + 1 : Nat) : Int)] (K.z (K.t ?_))
     refine ⟨_, ?_, k + 1, bt / 2, rfl, ⟨by rfl, by rfl, by rfl, by rfl, by rfl, by rfl, by rfl, by rfl, by rfl, trivial⟩, (by omega), (by rw [hbt, half_step]), (by omega), hS.pick [0, 1, 2, 3, 4]⟩
     omega
    ·
     refine K.x ((((k : Nat) : Int) : Int) < (P.getD i 0 : Int)) h_24 ?_
     refine K.z (K.t (K.f ?_))
     refine K.KW.exit ?_
     refine K.thn_exit ?_
     refine K.thn_exit ?_
     refine K.blk_hit ?_
     refine K.t (K.s ?_)
     have hkx : k = (P.getD i 0).toNat := by omega
     have hnb : noB mask (P.getD i 0) ↔ ¬ bt % 2 = 1 := by unfold noB; rw [← hkx, ← hbt]
     refine K.g (K.q [K.iv ((bt : Nat) : Int)] ?_)
     refine K.a (K.QR.remi64 (((bt : Nat) : Int) : Int) 2 ((bt % 2 : Nat) : Int) (by kernel_rfl) (by omega) (by omega)) ?_
     by_cases h_25 : (((bt % 2 : Nat) : Int) : Int) = (1 : Int)
     ·
      refine K.ye (((bt % 2 : Nat) : Int) : Int) (1 : Int) h_25 ?_
      refine K.q [.bool true] (K.z (K.t (K.s (K.s (K.g (K.q [.bool true, .bool true, .pointer (some ⟨r_14, 9, none⟩)] ?_))))))
      refine K.d (.bool ((L.getD ((P.getD i 0).toNat) call0).cr)) ((hS.blk 0 rfl hg_18).cell rfl) ?_
      cases hb_26 : (L.getD ((P.getD i 0).toNat) call0).cr
      ·
       refine K.q [.bool true, .bool true, .bool true] (K.n_ (K.n_ (K.n_ (K.n_ (K.n_ (K.n_ (K.n_ (K.n_ (K.n_ (K.n_ (K.n_ (K.q [.bool true] (K.z (K.t ?_))))))))))))))
       refine K.h (K.s (K.g (K.q [.slice none 0 0, .bool false] (K.z (K.t (K.r (K.u ?_)))))))
       refine K.blk_ret ?_
       refine K.u (K.u ?_)
       refine K.blk_ret ?_
       refine K.u ?_
       refine ⟨.inr rfl, rfl, (.tuple #[.slice none 0 0, .bool false]), K.res2 rfl rfl rfl, [gx, gp], ?_, hS.pick [2, 3, 4]⟩
       exact .inr ⟨rfl, rfl, fun hh => (hh i (by omega)).1 ⟨fun h8 => (hnb.1 h8) (by omega), hb_26⟩⟩
      ·
       refine K.q [.bool false, .bool false, .bool false, .bool true, .bool false, .bool false] (K.n_ (K.n_ (K.q [.bool false, .bool false] (K.n_ (K.n_ (K.n_ (K.q [.bool false, .bool false] (K.z (K.t (K.f (K.k (K.t (K.s (K.g ?_))))))))))))))
       refine K.q [.bool true, .bool false] (K.z (K.t (K.f (K.k ?_))))
       refine K.blk_normal ?_
       refine K.t (K.g (K.q [K.iv ((i : Nat) : Int)] ?_))
       refine K.a (K.QR.n64 ((((i : Nat) : Int) : Int) + (1 : Int)) ((i + 1 : Nat) : Int) (by kernel_rfl) (by omega)) ?_
       refine K.q [K.iv ((i + 1 : Nat) : Int)] (K.z (K.t ?_))
       refine ⟨_, ?_, i + 1, o, q1, c1, o1, rfl, ⟨by rfl, by rfl, by rfl, congrArg (fun m_ => Value.slice q1 m_ c1) (by first | rfl | (rw [List.length_append]; rfl) : o.length = (o).length), by rfl, by rfl, trivial⟩, (by omega), (by rw [ho, filt_n (by omega) (fun h8 => (hnb.1 h8) (by omega))]), (K.all_snoc hok ⟨fun hh => (by have h9 := hh.2; rw [hb_26] at h9; cases h9), fun hh => (hnb.1 hh.1) (by omega)⟩), (by first | omega | (rw [List.length_append, List.length_singleton]; omega)), (K.OwnG.cast x_8 (by first | rfl | (rw [List.length_append]; rfl)) rfl), hS.pick [1, 2, 3, 4]⟩
       omega
     ·
      refine K.xe (((bt % 2 : Nat) : Int) : Int) (1 : Int) h_25 ?_
      refine K.q [.bool false] (K.z (K.t (K.s (K.s (K.g (K.q [.bool false, .bool false] (K.n_ (K.n_ (K.n_ (K.q [.bool false, .bool false, .bool false, .bool true, .bool true, .pointer (some ⟨r_14, 9, none⟩)] ?_))))))))))
      refine K.d (.bool ((L.getD ((P.getD i 0).toNat) call0).cr)) ((hS.blk 0 rfl hg_18).cell rfl) ?_
      cases hb_27 : (L.getD ((P.getD i 0).toNat) call0).cr
      ·
       refine K.q [.bool false, .bool false] (K.n_ (K.n_ (K.n_ (K.q [.bool false, .bool false] (K.z (K.t (K.f (K.k (K.t (K.s (K.g (K.q [.bool false, .bool true] (K.z (K.t ?_))))))))))))))
       refine K.h ?_
       have hvj := hv i (by omega)
       refine K.g (K.q [.slice q1 o.length c1, .slice (some ⟨b_10, of_11, none⟩) P.length cb, K.iv ((i : Nat) : Int)] ?_)
       refine K.a (K.QR.ix (of_11 + i * 1) 1 rfl rfl rfl Try.underlying23 (by kernel_rfl) (by omega) (by first | (simp; done) | omega | (simp; omega))) ?_
       refine K.d (K.iv (P.getD i 0)) ((hpx _ (hS.pick [3])).ld i (by omega) 0 _ rfl) ?_
       refine K.l (K.OW.gbs [(0, K.iv (P.getD i 0))] [K.iv (P.getD i 0)] hS (fun w => K.bs_run (P := Try.prog) w 23 3 1 _ _ Try.underlying23 (by kernel_rfl)) ?_)
       clear hS; intro w r_28 g_29 hg_30 hS
       refine K.l (K.OW.gapp (P := Try.prog) (xs := (o).flatMap cI64) (z := K.iv 0) (size := 1) (bytes := 8) 2 [K.iv (P.getD i 0)] hS x_8 ?_ (fun j u hj => (by rw [Nat.zero_add]; exact (hS.blk 0 rfl hg_30).cell hj)) (K.one_cells (by rfl)) (by rfl) Try.underlying23 (by kernel_rfl) rfl (by decide) (by unfold maxLen; omega) (by omega))
       clear hS; intro a_31 cap_32 w l_33 o_34 hS
       have ln_35 : ((o ++ [(P.getD i 0 : Int)])).length = o.length + 1 := by rw [List.length_append]; rfl
       have o_34c := K.OwnG.cast (xs' := ((o ++ [(P.getD i 0 : Int)])).flatMap cI64) o_34 rfl (K.fl_snoc cI64 o (P.getD i 0 : Int) rfl)
       replace hS : K.Sat w0 [g_29, g_17, l_33, gx, gp, fr] w := hS
       refine K.q [.slice a_31 (o.length + 1) cap_32] (K.z ?_)
       refine K.blk_normal ?_
       refine K.t (K.g (K.q [K.iv ((i : Nat) : Int)] ?_))
       refine K.a (K.QR.n64 ((((i : Nat) : Int) : Int) + (1 : Int)) ((i + 1 : Nat) : Int) (by kernel_rfl) (by omega)) ?_
       refine K.q [K.iv ((i + 1 : Nat) : Int)] (K.z (K.t ?_))
       refine ⟨_, ?_, i + 1, (o ++ [(P.getD i 0 : Int)]), a_31, cap_32, l_33, rfl, ⟨by rfl, by rfl, by rfl, congrArg (fun m_ => Value.slice a_31 m_ cap_32) (by first | rfl | (rw [List.length_append]; rfl) : o.length + 1 = ((o ++ [(P.getD i 0 : Int)])).length), by rfl, by rfl, trivial⟩, (by omega), (by rw [ho, filt_y (by omega) (hnb.2 (by omega))]), (K.all_snoc hok ⟨fun hh => hh.1 (hnb.2 (by omega)), fun hh => (by have h9 := hh.2.1; rw [hb_27] at h9; cases h9)⟩), (by first | omega | (rw [List.length_append, List.length_singleton]; omega)), (K.OwnG.cast o_34c (by first | rfl | (rw [List.length_append]; rfl)) rfl), hS.pick [2, 3, 4, 5]⟩
       omega
      ·
       refine K.q [.bool true, .bool true, .pointer (some ⟨r_14, 8, none⟩)] ?_
       refine K.d (K.iv ((L.getD ((P.getD i 0).toNat) call0).wh)) ((hS.blk 0 rfl hg_18).cell rfl) ?_
       by_cases h_36 : ((L.getD ((P.getD i 0).toNat) call0).wh : Int) = ((-1) : Int)
       ·
        refine K.ye ((L.getD ((P.getD i 0).toNat) call0).wh : Int) ((-1) : Int) h_36 ?_
        refine K.q [.bool true, .bool true] (K.z (K.t (K.h (K.s (K.g (K.q [.slice none 0 0, .bool false] (K.z (K.t (K.r (K.u ?_))))))))))
        refine K.blk_ret ?_
        refine K.u (K.u ?_)
        refine K.blk_ret ?_
        refine K.u ?_
        refine ⟨.inr rfl, rfl, (.tuple #[.slice none 0 0, .bool false]), K.res2 rfl rfl rfl, [gx, gp], ?_, hS.pick [2, 3, 4]⟩
        exact .inr ⟨rfl, rfl, fun hh => (hh i (by omega)).2 ⟨hnb.2 (by omega), hb_27, by omega⟩⟩
       ·
        refine K.xe ((L.getD ((P.getD i 0).toNat) call0).wh : Int) ((-1) : Int) h_36 ?_
        refine K.q [.bool false, .bool false] (K.z (K.t (K.f (K.k (K.t (K.s (K.g (K.q [.bool false, .bool true] (K.z (K.t (K.h ?_)))))))))))
        have hvj := hv i (by omega)
        refine K.g (K.q [.slice q1 o.length c1, .slice (some ⟨b_10, of_11, none⟩) P.length cb, K.iv ((i : Nat) : Int)] ?_)
        refine K.a (K.QR.ix (of_11 + i * 1) 1 rfl rfl rfl Try.underlying23 (by kernel_rfl) (by omega) (by first | (simp; done) | omega | (simp; omega))) ?_
        refine K.d (K.iv (P.getD i 0)) ((hpx _ (hS.pick [3])).ld i (by omega) 0 _ rfl) ?_
        refine K.l (K.OW.gbs [(0, K.iv (P.getD i 0))] [K.iv (P.getD i 0)] hS (fun w => K.bs_run (P := Try.prog) w 23 3 1 _ _ Try.underlying23 (by kernel_rfl)) ?_)
        clear hS; intro w r_37 g_38 hg_39 hS
        refine K.l (K.OW.gapp (P := Try.prog) (xs := (o).flatMap cI64) (z := K.iv 0) (size := 1) (bytes := 8) 2 [K.iv (P.getD i 0)] hS x_8 ?_ (fun j u hj => (by rw [Nat.zero_add]; exact (hS.blk 0 rfl hg_39).cell hj)) (K.one_cells (by rfl)) (by rfl) Try.underlying23 (by kernel_rfl) rfl (by decide) (by unfold maxLen; omega) (by omega))
        clear hS; intro a_40 cap_41 w l_42 o_43 hS
        have ln_44 : ((o ++ [(P.getD i 0 : Int)])).length = o.length + 1 := by rw [List.length_append]; rfl
        have o_43c := K.OwnG.cast (xs' := ((o ++ [(P.getD i 0 : Int)])).flatMap cI64) o_43 rfl (K.fl_snoc cI64 o (P.getD i 0 : Int) rfl)
        replace hS : K.Sat w0 [g_38, g_17, l_42, gx, gp, fr] w := hS
        refine K.q [.slice a_40 (o.length + 1) cap_41] (K.z ?_)
        refine K.blk_normal ?_
        refine K.t (K.g (K.q [K.iv ((i : Nat) : Int)] ?_))
        refine K.a (K.QR.n64 ((((i : Nat) : Int) : Int) + (1 : Int)) ((i + 1 : Nat) : Int) (by kernel_rfl) (by omega)) ?_
        refine K.q [K.iv ((i + 1 : Nat) : Int)] (K.z (K.t ?_))
        refine ⟨_, ?_, i + 1, (o ++ [(P.getD i 0 : Int)]), a_40, cap_41, l_42, rfl, ⟨by rfl, by rfl, by rfl, congrArg (fun m_ => Value.slice a_40 m_ cap_41) (by first | rfl | (rw [List.length_append]; rfl) : o.length + 1 = ((o ++ [(P.getD i 0 : Int)])).length), by rfl, by rfl, trivial⟩, (by omega), (by rw [ho, filt_y (by omega) (hnb.2 (by omega))]), (K.all_snoc hok ⟨fun hh => hh.1 (hnb.2 (by omega)), fun hh => (by have h9 := hh.2.2; omega)⟩), (by first | omega | (rw [List.length_append, List.length_singleton]; omega)), (K.OwnG.cast o_43c (by first | rfl | (rw [List.length_append]; rfl)) rfl), hS.pick [2, 3, 4, 5]⟩
        omega
  ·
   refine K.x ((((i : Nat) : Int) : Int) < (((P.length : Nat) : Int) : Int)) h_9 ?_
   refine K.z (K.t (K.f ?_))
   refine K.KW.exit ?_
   refine K.thn_exit ?_
   refine K.thn_exit ?_
   refine K.blk_hit ?_
   refine K.t (K.s (K.g (K.q [.slice q1 o.length c1, .slice q1 o.length c1, .bool true] (K.z (K.t (K.r ?_))))))
   refine ⟨.inr rfl, rfl, (.tuple #[.slice q1 o.length c1, .bool true]), K.res2 rfl rfl rfl, [gx, gp, o1], ?_, hS.pick [1, 2, 0, 3]⟩
   have e : o = filt mask P := by rw [ho, List.take_of_length_le (by omega)]
   exact .inl ⟨_, _, _, rfl, by rw [← e], by rw [← e]; exact x_8, fun q hq => hok q (by omega)⟩
end Go.Proofs.Ytnehocjmgnhhhaa
