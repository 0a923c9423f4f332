import Derived.Test.YtnehocjmgnhhhaaFhi
import Derived.Test.YtnehocjmgnhhhaaKn
/- Histories: which took effect. -/
namespace Go.Proofs.Ytnehocjmgnhhhaa
open Go.RowKit
set_option linter.unusedVariables false
attribute [local irreducible] K.KW K.RW K.DW K.OW K.QR K.KC
def tookH (c : CallM) : Prop := c.cr = false ∨ c.kp = true
instance (c : CallM) : Decidable (tookH c) := inferInstanceAs (Decidable (_ ∨ _))
def tookU (L : List CallM) : Nat → List Int
 | 0 => []
 | j + 1 => if tookH (L.getD j call0) then tookU L j ++ [((j : Nat) : Int)] else tookU L j
def tookT (L : List CallM) : List Int := tookU L L.length
theorem tookU_t {L : List CallM} {j : Nat} (h : tookH (L.getD j call0)) : tookU L (j + 1) = tookU L j ++ [((j : Nat) : Int)] := by
 show (if tookH (L.getD j call0) then _ else _) = _
 rw [if_pos h]
theorem tookU_f {L : List CallM} {j : Nat} (h : ¬ tookH (L.getD j call0)) : tookU L (j + 1) = tookU L j := by
 show (if tookH (L.getD j call0) then _ else _) = _
 rw [if_neg h]
theorem tookU_len (L : List CallM) : ∀ j, (tookU L j).length ≤ j
 | 0 => by simp [tookU]
 | j + 1 => by
  have := tookU_len L j
  unfold tookU
  split
  ·rw [List.length_append, List.length_singleton]; omega
  ·omega
set_option maxHeartbeats 1000000 in
set_option maxRecDepth 100000 in
theorem took1_ok (w0 : World) (c : CallM) :
  K.GC Try.prog w0 40 #[.agg #[K.iv c.th, K.iv c.ok, .int .u32 c.key, .int .u32 c.val, K.iv c.rk, .int .u32 c.rv, K.iv c.beg, K.iv c.en, K.iv c.wh, .bool c.cr, .bool c.kp]] [] (fun v post => post = [] ∧ ((tookH c ∧ v = .bool true) ∨ (¬ (tookH c) ∧ v = .bool false))) := by
 refine K.GC.mk (n := 10) Try.func40 rfl rfl [.agg #[K.iv c.th, K.iv c.ok, .int .u32 c.key, .int .u32 c.val, K.iv c.rk, .int .u32 c.rv, K.iv c.beg, K.iv c.en, K.iv c.wh, .bool c.cr, .bool c.kp]] rfl rfl ?_
 intro fr w hS
 replace hS : K.Sat w0 [fr] w := hS
 refine K.s (K.g ?_)
 refine K.l (K.OW.gnew 51 [K.iv c.th, K.iv c.ok, .int .u32 c.key, .int .u32 c.val, K.iv c.rk, .int .u32 c.rv, K.iv c.beg, K.iv c.en, K.iv c.wh, .bool c.cr, .bool c.kp] hS ?_)
 clear hS; intro w r_1 g_2 hg_3 hS
 refine K.q [.bool false] (K.z (K.t (K.s (K.g (K.q [.pointer (some ⟨r_1, 9, none⟩)] ?_)))))
 refine K.d (.bool c.cr) ((hS.blk 0 rfl hg_3).cell rfl) ?_
 cases hb_4 : c.cr
 ·
  refine K.q [.bool true, .bool true] (K.n_ (K.n_ (K.q [.bool true, .bool true] (K.z (K.t (K.r ?_))))))
  refine ⟨.inr rfl, rfl, (.bool true), K.res1 rfl rfl, [], ?_, hS.pick [1]⟩
  exact ⟨rfl, .inl ⟨by unfold tookH; first | omega | simp_all | (simp_all; omega), rfl⟩⟩
 ·
  refine K.q [.bool false, .bool false, .pointer (some ⟨r_1, 10, none⟩)] ?_
  refine K.d (.bool c.kp) ((hS.blk 0 rfl hg_3).cell rfl) ?_
  cases hb_5 : c.kp
  ·
   refine K.q [.bool false, .bool false] (K.z (K.t (K.r ?_)))
   refine ⟨.inr rfl, rfl, (.bool false), K.res1 rfl rfl, [], ?_, hS.pick [1]⟩
   exact ⟨rfl, .inr ⟨fun hh => by unfold tookH at hh; first | omega | simp_all | (simp_all; omega), rfl⟩⟩
  ·
   refine K.q [.bool true, .bool true] (K.z (K.t (K.r ?_)))
   refine ⟨.inr rfl, rfl, (.bool true), K.res1 rfl rfl, [], ?_, hS.pick [1]⟩
   exact ⟨rfl, .inl ⟨by unfold tookH; first | omega | simp_all | (simp_all; omega), rfl⟩⟩
set_option maxHeartbeats 1000000 in
set_option maxRecDepth 100000 in
theorem where_ok (w0 : World) (a : Option Addr) (cap : Nat) (L : List CallM) (hm : L.length ≤ 1000000) (gx : K.Cs) (hx : ∀ w, K.Sat w0 [gx] w → K.RowE w a L.length 11 (fun i => cCall (L.getD i call0))) :
  K.GC Try.prog w0 39 #[.slice a L.length cap, .func (.func 40) [].toArray [].toArray] [gx] (fun v post => ∃ r g k, post = [gx, g] ∧ v = .slice r (tookT L).length k ∧ K.OwnG g 3 1 r (tookT L).length k ((tookT L).flatMap cI64)) := by
 refine K.GC.mk (n := 24) Try.func39 rfl rfl [.slice a L.length cap, .func (.func 40) [].toArray [].toArray] rfl rfl ?_
 intro fr w hS
 replace hS : K.Sat w0 [gx, fr] w := hS
 refine K.s (K.g (K.q [.slice none 0 0] (K.z (K.t (K.s (K.g (K.q [.slice none 0 0] (K.z (K.t (K.s (K.s (K.g (K.q [.slice a L.length cap] ?_)))))))))))))
 refine K.a (K.QR.len (P := Try.prog) rfl rfl Try.underlying22) ?_
 refine K.q [K.iv 0] (K.z (K.t ?_))
 refine K.KW.block ?_
 obtain ⟨z_1, hz_2⟩ : ∃ z : K.Cs, z = [] := ⟨_, rfl⟩
 replace hS : K.Sat w0 [z_1, gx, fr] w := hS.of (by simp [hz_2])
 have o_3 : K.OwnG z_1 3 1 none 0 0 [] := by rw [hz_2]; exact K.OwnG.nil _ _
 refine K.KW.loop (fun m_ F_ w_ => ∃ (j : Nat) (o : List Int) (q1 : Option Addr) (c1 : Nat) (o1 : K.Cs), m_ = L.length - j ∧ K.Sl F_ [(0, .slice a L.length cap), (1, .func (.func 40) [].toArray [].toArray), (4, .slice none 0 0), (5, .slice q1 o.length c1), (8, .slice a L.length cap), (9, K.iv ((L.length : Nat) : Int)), (10, K.iv ((j : Nat) : Int)), (24, undef)] ∧ j ≤ L.length ∧ o = tookU L j ∧ K.OwnG o1 3 1 q1 o.length c1 ((o).flatMap cI64) ∧ K.Sat w0 [o1, gx, fr] w_) ((fun (j : Nat) (o : List Int) (q1 : Option Addr) (c1 : Nat) => L.length - j) 0 [] none 0) ?_ ?_
 ·
  exact ⟨0, [], none, 0, z_1, rfl, ⟨by rfl, by rfl, by rfl, by rfl, by rfl, by rfl, by rfl, by rfl, trivial⟩, (by omega), (rfl), o_3, hS.pick [0, 1, 2]⟩
 ·
  clear hS
  intro m_4 F_5 w hI
  obtain ⟨j, o, q1, c1, o1, rfl, sl_6, p_7, ho, x_8, hS⟩ := hI
  rw [← K.Sl.puts sl_6]; clear sl_6
  have hol := tookU_len L j
  rw [← ho] at hol
  refine K.s (K.g ?_)
  by_cases h_9 : (((j : Nat) : Int) : Int) < (((L.length : Nat) : Int) : Int)
  ·
   refine K.y ((((j : Nat) : Int) : Int) < (((L.length : Nat) : Int) : Int)) h_9 ?_
   refine K.z (K.t (K.s (K.h (K.k (K.t (K.s ?_))))))
   refine K.KW.block ?_
   refine K.s ?_
   obtain ⟨b_10, of_11, rfl, _⟩ := (hx _ (hS.pick [1])).at_ (by omega)
   refine K.g (K.q [K.iv ((j : Nat) : Int)] ?_)
   refine K.a (K.QR.ix (of_11 + j * 11) 11 rfl rfl rfl Try.underlying22 (by kernel_rfl) (by omega) (by first | (simp; done) | omega | (simp; omega))) ?_
   refine K.a (K.QR.ldN [K.iv ((L.getD j call0).th), K.iv ((L.getD j call0).ok), .int .u32 ((L.getD j call0).key), .int .u32 ((L.getD j call0).val), K.iv ((L.getD j call0).rk), .int .u32 ((L.getD j call0).rv), K.iv ((L.getD j call0).beg), K.iv ((L.getD j call0).en), K.iv ((L.getD j call0).wh), .bool ((L.getD j call0).cr), .bool ((L.getD j call0).kp)] rfl rfl (by kernel_rfl) (by kernel_rfl) (K.cells (K.cl ((hx _ (hS.pick [1])).ld j (by omega) 0 _ rfl) (K.cl ((hx _ (hS.pick [1])).ld j (by omega) 1 _ rfl) (K.cl ((hx _ (hS.pick [1])).ld j (by omega) 2 _ rfl) (K.cl ((hx _ (hS.pick [1])).ld j (by omega) 3 _ rfl) (K.cl ((hx _ (hS.pick [1])).ld j (by omega) 4 _ rfl) (K.cl ((hx _ (hS.pick [1])).ld j (by omega) 5 _ rfl) (K.cl ((hx _ (hS.pick [1])).ld j (by omega) 6 _ rfl) (K.cl ((hx _ (hS.pick [1])).ld j (by omega) 7 _ rfl) (K.cl ((hx _ (hS.pick [1])).ld j (by omega) 8 _ rfl) (K.cl ((hx _ (hS.pick [1])).ld j (by omega) 9 _ rfl) (K.cl ((hx _ (hS.pick [1])).ld j (by omega) 10 _ rfl) K.cl0))))))))))))) ?_
   refine K.l (K.OW.gnew 51 [K.iv 0, K.iv 0, .int .u32 0, .int .u32 0, K.iv 0, .int .u32 0, K.iv 0, K.iv 0, K.iv 0, .bool false, .bool false] hS ?_)
   clear hS; intro w r_12 g_13 hg_14 hS
   refine K.q [K.iv ((j : Nat) : Int)] ?_
   refine K.l (K.OW.gst 0 [K.iv ((L.getD j call0).th), K.iv ((L.getD j call0).ok), .int .u32 ((L.getD j call0).key), .int .u32 ((L.getD j call0).val), K.iv ((L.getD j call0).rk), .int .u32 ((L.getD j call0).rv), K.iv ((L.getD j call0).beg), K.iv ((L.getD j call0).en), K.iv ((L.getD j call0).wh), .bool ((L.getD j call0).cr), .bool ((L.getD j call0).kp)] _ hS hg_14 ?_)
   clear hS; intro w g_15 hg_16 hS
   replace hS : K.Sat w0 [g_15, o1, gx, fr] w := hS
   refine K.z (K.t (K.s (K.g (K.q [.func (.func 40) [].toArray [].toArray] ?_))))
   refine K.a (K.QR.ldN [K.iv ((L.getD j call0).th), K.iv ((L.getD j call0).ok), .int .u32 ((L.getD j call0).key), .int .u32 ((L.getD j call0).val), K.iv ((L.getD j call0).rk), .int .u32 ((L.getD j call0).rv), K.iv ((L.getD j call0).beg), K.iv ((L.getD j call0).en), K.iv ((L.getD j call0).wh), .bool ((L.getD j call0).cr), .bool ((L.getD j call0).kp)] rfl rfl (by kernel_rfl) (by kernel_rfl) (K.cells (K.cl ((hS.blk 0 rfl hg_16).cell rfl) (K.cl ((hS.blk 0 rfl hg_16).cell rfl) (K.cl ((hS.blk 0 rfl hg_16).cell rfl) (K.cl ((hS.blk 0 rfl hg_16).cell rfl) (K.cl ((hS.blk 0 rfl hg_16).cell rfl) (K.cl ((hS.blk 0 rfl hg_16).cell rfl) (K.cl ((hS.blk 0 rfl hg_16).cell rfl) (K.cl ((hS.blk 0 rfl hg_16).cell rfl) (K.cl ((hS.blk 0 rfl hg_16).cell rfl) (K.cl ((hS.blk 0 rfl hg_16).cell rfl) (K.cl ((hS.blk 0 rfl hg_16).cell rfl) K.cl0))))))))))))) ?_
   refine K.l (K.OW.gcallw hS [] [0, 1, 2, 3] [.agg #[K.iv ((L.getD j call0).th), K.iv ((L.getD j call0).ok), .int .u32 ((L.getD j call0).key), .int .u32 ((L.getD j call0).val), K.iv ((L.getD j call0).rk), .int .u32 ((L.getD j call0).rv), K.iv ((L.getD j call0).beg), K.iv ((L.getD j call0).en), K.iv ((L.getD j call0).wh), .bool ((L.getD j call0).cr), .bool ((L.getD j call0).kp)]] (took1_ok _ (L.getD j call0)) ?_)
   clear hS; rintro _ _ w ⟨rfl, (⟨h_17, rfl⟩ | ⟨h_18, rfl⟩)⟩ hS
   ·
    replace hS : K.Sat w0 [g_15, o1, gx, fr] w := hS
    refine K.z (K.t (K.h (K.g (K.q [.slice q1 o.length c1, K.iv ((j : Nat) : Int)] ?_))))
    refine K.l (K.OW.gbs [(0, K.iv ((j : Nat) : Int))] [K.iv ((j : Nat) : Int)] hS (fun w => K.bs_run (P := Try.prog) w 23 3 1 _ _ Try.underlying23 (by kernel_rfl)) ?_)
    clear hS; intro w r_19 g_20 hg_21 hS
    refine K.l (K.OW.gapp (P := Try.prog) (xs := (o).flatMap cI64) (z := K.iv 0) (size := 1) (bytes := 8) 2 [K.iv ((j : Nat) : Int)] hS x_8 ?_ (fun j u hj => (by rw [Nat.zero_add]; exact (hS.blk 0 rfl hg_21).cell hj)) (K.one_cells (by rfl)) (by rfl) Try.underlying23 (by kernel_rfl) rfl (by decide) (by unfold maxLen; omega) (by omega))
    clear hS; intro a_22 cap_23 w l_24 o_25 hS
    have ln_26 : ((o ++ [(((j : Nat) : Int) : Int)])).length = o.length + 1 := by rw [List.length_append]; rfl
    have o_25c := K.OwnG.cast (xs' := ((o ++ [(((j : Nat) : Int) : Int)])).flatMap cI64) o_25 rfl (K.fl_snoc cI64 o (((j : Nat) : Int) : Int) rfl)
    replace hS : K.Sat w0 [g_20, g_15, l_24, gx, fr] w := hS
    refine K.q [.slice a_22 (o.length + 1) cap_23] (K.z ?_)
    refine K.blk_normal ?_
    refine K.t (K.g ?_)
    refine K.a (K.QR.n64 ((((j : Nat) : Int) : Int) + (1 : Int)) ((j + 1 : Nat) : Int) (by kernel_rfl) (by omega)) ?_
    refine K.q [K.iv ((j + 1 : Nat) : Int)] (K.z (K.t ?_))
    refine ⟨_, ?_, j + 1, (o ++ [(((j : Nat) : Int) : Int)]), a_22, cap_23, l_24, rfl, ⟨by rfl, by rfl, by rfl, congrArg (fun m_ => Value.slice a_22 m_ cap_23) (by first | rfl | (rw [List.length_append]; rfl) : o.length + 1 = ((o ++ [(((j : Nat) : Int) : Int)])).length), by rfl, by rfl, by rfl, by rfl, trivial⟩, (by omega), (by rw [tookU_t h_17, ho]), (K.OwnG.cast o_25c (by first | rfl | (rw [List.length_append]; rfl)) rfl), hS.pick [2, 3, 4]⟩
    omega
   ·
    replace hS : K.Sat w0 [g_15, o1, gx, fr] w := hS
    refine K.z (K.t (K.f (K.k ?_)))
    refine K.blk_normal ?_
    refine K.t (K.g ?_)
    refine K.a (K.QR.n64 ((((j : Nat) : Int) : Int) + (1 : Int)) ((j + 1 : Nat) : Int) (by kernel_rfl) (by omega)) ?_
    refine K.q [K.iv ((j + 1 : Nat) : Int)] (K.z (K.t ?_))
    refine ⟨_, ?_, j + 1, o, q1, c1, o1, rfl, ⟨by rfl, by rfl, by rfl, congrArg (fun m_ => Value.slice q1 m_ c1) (by first | rfl | (rw [List.length_append]; rfl) : o.length = (o).length), by rfl, by rfl, by rfl, by rfl, trivial⟩, (by omega), (by rw [tookU_f h_18, ho]), (K.OwnG.cast x_8 (by first | rfl | (rw [List.length_append]; rfl)) rfl), hS.pick [1, 2, 3]⟩
    omega
  ·
   refine K.x ((((j : Nat) : Int) : Int) < (((L.length : Nat) : Int) : Int)) h_9 ?_
   refine K.z (K.t (K.s (K.f ?_)))
   refine K.KW.exit ?_
   refine K.thn_exit ?_
   refine K.thn_exit ?_
   refine K.blk_hit ?_
   refine K.t (K.s (K.g (K.q [.slice q1 o.length c1, .slice q1 o.length c1] (K.z (K.t (K.r ?_))))))
   refine ⟨.inr rfl, rfl, (.slice q1 o.length c1), K.res1 rfl rfl, [gx, o1], ?_, hS.pick [1, 0, 2]⟩
   have hj : j = L.length := by omega
   have e : o = tookT L := by rw [ho, hj]; rfl
   exact ⟨_, _, _, rfl, by rw [← e], by rw [← e]; exact x_8⟩
set_option maxHeartbeats 1000000 in
set_option maxRecDepth 100000 in
theorem took_ok (w0 : World) (a : Option Addr) (cap : Nat) (L : List CallM) (hm : L.length ≤ 1000000) (gx : K.Cs) (hx : ∀ w, K.Sat w0 [gx] w → K.RowE w a L.length 11 (fun i => cCall (L.getD i call0))) :
  K.GC Try.prog w0 22 #[.slice a L.length cap] [gx] (fun v post => ∃ r g k, post = [gx, g] ∧ v = .slice r (tookT L).length k ∧ K.OwnG g 3 1 r (tookT L).length k ((tookT L).flatMap cI64)) := by
 refine K.GC.mk (n := 5) Try.func22 rfl rfl [.slice a L.length cap] rfl rfl ?_
 intro fr w hS
 replace hS : K.Sat w0 [gx, fr] w := hS
 refine K.s (K.g (K.q [.slice none 0 0] (K.z (K.t (K.s (K.g (K.q [.slice a L.length cap] ?_)))))))
 refine K.l (K.OW.gcall hS [0] [1] [.slice a L.length cap, .func (.func 40) [].toArray [].toArray] (where_ok _ _ _ L (by omega) _ hx) ?_)
 clear hS; rintro _ _ w ⟨r_1, g_2, k_3, rfl, rfl, o_4⟩ hS
 replace hS : K.Sat w0 [gx, g_2, fr] w := hS
 refine K.q [.slice r_1 ((tookT L).length) k_3] (K.z (K.t (K.r ?_)))
 refine ⟨.inr rfl, rfl, (.slice r_1 ((tookT L).length) k_3), K.res1 rfl rfl, [gx, g_2], ?_, hS.pick [0, 1, 2]⟩
 exact ⟨_, _, _, rfl, rfl, o_4⟩
end Go.Proofs.Ytnehocjmgnhhhaa
