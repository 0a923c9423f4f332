import Derived.Test.YtnehocjmgnhhhaaFhi4
import Derived.Test.YtnehocjmgnhhhaaKn
/- Histories: the document's. -/
namespace Go.Proofs.Ytnehocjmgnhhhaa
open Go.RowKit
set_option linter.unusedVariables false
attribute [local irreducible] K.KW K.RW K.DW K.OW K.QR K.KC
def cI2 (p : Int × Int) : List Value := [K.iv p.1, K.iv p.2]
def resL (op : Int) : List (Int × Int) := if op = 1 then [(1, 0), (5, 0)] else if op = 2 then [(1, 1), (2, 0), (5, 0)] else if op = 3 then [(1, 0), (3, 0), (5, 0)] else if op = 4 then [(1, 0), (4, 0), (5, 0)] else if op = 5 then [(3, 0), (4, 0)] else if op = 6 then [(1, 0), (3, 1), (5, 0)] else if op = 7 then [(3, 1), (4, 0)] else [(1, 1), (4, 0), (5, 0)]
theorem resL_len (op : Int) : (resL op).length ≤ 3 := by
 unfold resL
 (repeat' split) <;> simp
theorem resL_iff {op kind rv : Int} (h : 1 ≤ op ∧ op ≤ 8) : (∃ q, q < (resL op).length ∧ ((resL op).getD q (0, 0)).1 = kind ∧ (((resL op).getD q (0, 0)).2 = 1 ∨ rv = 0)) ↔ canK op kind ∧ (rv = 0 ∨ valdK op kind) := by
 have h8 : op = 1 ∨ op = 2 ∨ op = 3 ∨ op = 4 ∨ op = 5 ∨ op = 6 ∨ op = 7 ∨ op = 8 := by omega
 have key : ∀ (L : List (Int × Int)), (∃ q, q < L.length ∧ (L.getD q (0, 0)).1 = kind ∧ ((L.getD q (0, 0)).2 = 1 ∨ rv = 0)) ↔ ∃ p ∈ L, p.1 = kind ∧ (p.2 = 1 ∨ rv = 0) := fun L => by
  constructor
  ·rintro ⟨q, hq, h⟩
   refine ⟨L.getD q (0, 0), ?_, h⟩
   rw [List.getD_eq_getElem?_getD, List.getElem?_eq_getElem hq]; exact List.getElem_mem hq
  ·rintro ⟨p, hp, h⟩
   obtain ⟨q, hq, rfl⟩ := List.mem_iff_getElem.1 hp
   exact ⟨q, hq, by rw [List.getD_eq_getElem?_getD, List.getElem?_eq_getElem hq]; exact h⟩
 rw [key]
 unfold canK valdK looksK
 rcases h8 with rfl | rfl | rfl | rfl | rfl | rfl | rfl | rfl <;> simp [resL] <;> omega
set_option maxHeartbeats 1000000 in
set_option maxRecDepth 100000 in
theorem results_ok (w0 : World) (op : Int) (h : 1 ≤ op ∧ op ≤ 8) :
  K.GC Try.prog w0 47 #[K.iv op] [] (fun v post => ∃ r g, post = [g] ∧ v = .slice (some ⟨r, 0, none⟩) (resL op).length (resL op).length ∧ K.OwnG g 80 2 (some ⟨r, 0, none⟩) (resL op).length (resL op).length ((resL op).flatMap cI2)) := by
 refine K.GC.mk (n := 46) Try.func47 rfl rfl [K.iv op] rfl rfl ?_
 intro fr w hS
 replace hS : K.Sat w0 [fr] w := hS
 refine K.s (K.g (K.q [.slice none 0 0] (K.z (K.t (K.s (K.s (K.g (K.q [K.iv op] ?_))))))))
 by_cases h_1 : (op : Int) = (1 : Int)
 ·
  refine K.ye (op : Int) (1 : Int) h_1 ?_
  refine K.z (K.t (K.h (K.s (K.g ?_))))
  refine K.a (K.QR.bd [(0, K.iv 1), (1, K.iv 0)] [K.iv 1, K.iv 0] rfl rfl (by kernel_rfl)) ?_
  refine K.a (K.QR.bd [(0, K.iv 5), (1, K.iv 0)] [K.iv 5, K.iv 0] rfl rfl (by kernel_rfl)) ?_
  refine K.l (K.OW.gbs [(0, .agg #[K.iv 1, K.iv 0]), (1, .agg #[K.iv 5, K.iv 0])] [K.iv 1, K.iv 0, K.iv 5, K.iv 0] hS (fun w => K.bs_run (P := Try.prog) w 78 80 2 _ _ Try.underlying78 (by kernel_rfl)) ?_)
  clear hS; intro w r_2 g_3 hg_4 hS
  refine K.q [.slice (some ⟨r_2, 0, none⟩) 2 2] (K.z (K.t (K.r (K.u ?_))))
  have hk : op = 1 := by omega
  subst hk
  refine ⟨.inr rfl, rfl, (.slice (some ⟨r_2, 0, none⟩) 2 2), K.res1 rfl rfl, [g_3], ?_, hS.pick [0, 1]⟩
  exact ⟨_, _, rfl, rfl, K.OwnG.ofPt hg_4 2 (by unfold maxLen; omega) rfl⟩
 ·
  refine K.xe (op : Int) (1 : Int) h_1 ?_
  refine K.z (K.t (K.f (K.k (K.t (K.s (K.s (K.g (K.q [K.iv op] ?_))))))))
  by_cases h_5 : (op : Int) = (2 : Int)
  ·
   refine K.ye (op : Int) (2 : Int) h_5 ?_
   refine K.z (K.t (K.h (K.s (K.g ?_))))
   refine K.a (K.QR.bd [(0, K.iv 1), (1, K.iv 1)] [K.iv 1, K.iv 1] rfl rfl (by kernel_rfl)) ?_
   refine K.a (K.QR.bd [(0, K.iv 2), (1, K.iv 0)] [K.iv 2, K.iv 0] rfl rfl (by kernel_rfl)) ?_
   refine K.a (K.QR.bd [(0, K.iv 5), (1, K.iv 0)] [K.iv 5, K.iv 0] rfl rfl (by kernel_rfl)) ?_
   refine K.l (K.OW.gbs [(0, .agg #[K.iv 1, K.iv 1]), (1, .agg #[K.iv 2, K.iv 0]), (2, .agg #[K.iv 5, K.iv 0])] [K.iv 1, K.iv 1, K.iv 2, K.iv 0, K.iv 5, K.iv 0] hS (fun w => K.bs_run (P := Try.prog) w 78 80 3 _ _ Try.underlying78 (by kernel_rfl)) ?_)
   clear hS; intro w r_6 g_7 hg_8 hS
   refine K.q [.slice (some ⟨r_6, 0, none⟩) 3 3] (K.z (K.t (K.r (K.u ?_))))
   have hk : op = 2 := by omega
   subst hk
   refine ⟨.inr rfl, rfl, (.slice (some ⟨r_6, 0, none⟩) 3 3), K.res1 rfl rfl, [g_7], ?_, hS.pick [0, 1]⟩
   exact ⟨_, _, rfl, rfl, K.OwnG.ofPt hg_8 3 (by unfold maxLen; omega) rfl⟩
  ·
   refine K.xe (op : Int) (2 : Int) h_5 ?_
   refine K.z (K.t (K.f (K.k (K.t (K.s (K.s (K.g (K.q [K.iv op] ?_))))))))
   by_cases h_9 : (op : Int) = (3 : Int)
   ·
    refine K.ye (op : Int) (3 : Int) h_9 ?_
    refine K.z (K.t (K.h (K.s (K.g ?_))))
    refine K.a (K.QR.bd [(0, K.iv 1), (1, K.iv 0)] [K.iv 1, K.iv 0] rfl rfl (by kernel_rfl)) ?_
    refine K.a (K.QR.bd [(0, K.iv 3), (1, K.iv 0)] [K.iv 3, K.iv 0] rfl rfl (by kernel_rfl)) ?_
    refine K.a (K.QR.bd [(0, K.iv 5), (1, K.iv 0)] [K.iv 5, K.iv 0] rfl rfl (by kernel_rfl)) ?_
    refine K.l (K.OW.gbs [(0, .agg #[K.iv 1, K.iv 0]), (1, .agg #[K.iv 3, K.iv 0]), (2, .agg #[K.iv 5, K.iv 0])] [K.iv 1, K.iv 0, K.iv 3, K.iv 0, K.iv 5, K.iv 0] hS (fun w => K.bs_run (P := Try.prog) w 78 80 3 _ _ Try.underlying78 (by kernel_rfl)) ?_)
    clear hS; intro w r_10 g_11 hg_12 hS
    refine K.q [.slice (some ⟨r_10, 0, none⟩) 3 3] (K.z (K.t (K.r (K.u ?_))))
    have hk : op = 3 := by omega
    subst hk
    refine ⟨.inr rfl, rfl, (.slice (some ⟨r_10, 0, none⟩) 3 3), K.res1 rfl rfl, [g_11], ?_, hS.pick [0, 1]⟩
    exact ⟨_, _, rfl, rfl, K.OwnG.ofPt hg_12 3 (by unfold maxLen; omega) rfl⟩
   ·
    refine K.xe (op : Int) (3 : Int) h_9 ?_
    refine K.z (K.t (K.f (K.k (K.t (K.s (K.s (K.g (K.q [K.iv op] ?_))))))))
    by_cases h_13 : (op : Int) = (4 : Int)
    ·
     refine K.ye (op : Int) (4 : Int) h_13 ?_
     refine K.z (K.t (K.h (K.s (K.g ?_))))
     refine K.a (K.QR.bd [(0, K.iv 1), (1, K.iv 0)] [K.iv 1, K.iv 0] rfl rfl (by kernel_rfl)) ?_
     refine K.a (K.QR.bd [(0, K.iv 4), (1, K.iv 0)] [K.iv 4, K.iv 0] rfl rfl (by kernel_rfl)) ?_
     refine K.a (K.QR.bd [(0, K.iv 5), (1, K.iv 0)] [K.iv 5, K.iv 0] rfl rfl (by kernel_rfl)) ?_
     refine K.l (K.OW.gbs [(0, .agg #[K.iv 1, K.iv 0]), (1, .agg #[K.iv 4, K.iv 0]), (2, .agg #[K.iv 5, K.iv 0])] [K.iv 1, K.iv 0, K.iv 4, K.iv 0, K.iv 5, K.iv 0] hS (fun w => K.bs_run (P := Try.prog) w 78 80 3 _ _ Try.underlying78 (by kernel_rfl)) ?_)
     clear hS; intro w r_14 g_15 hg_16 hS
     refine K.q [.slice (some ⟨r_14, 0, none⟩) 3 3] (K.z (K.t (K.r (K.u ?_))))
     have hk : op = 4 := by omega
     subst hk
     refine ⟨.inr rfl, rfl, (.slice (some ⟨r_14, 0, none⟩) 3 3), K.res1 rfl rfl, [g_15], ?_, hS.pick [0, 1]⟩
     exact ⟨_, _, rfl, rfl, K.OwnG.ofPt hg_16 3 (by unfold maxLen; omega) rfl⟩
    ·
     refine K.xe (op : Int) (4 : Int) h_13 ?_
     refine K.z (K.t (K.f (K.k (K.t (K.s (K.s (K.g (K.q [K.iv op] ?_))))))))
     by_cases h_17 : (op : Int) = (5 : Int)
     ·
      refine K.ye (op : Int) (5 : Int) h_17 ?_
      refine K.z (K.t (K.h (K.s (K.g ?_))))
      refine K.a (K.QR.bd [(0, K.iv 3), (1, K.iv 0)] [K.iv 3, K.iv 0] rfl rfl (by kernel_rfl)) ?_
      refine K.a (K.QR.bd [(0, K.iv 4), (1, K.iv 0)] [K.iv 4, K.iv 0] rfl rfl (by kernel_rfl)) ?_
      refine K.l (K.OW.gbs [(0, .agg #[K.iv 3, K.iv 0]), (1, .agg #[K.iv 4, K.iv 0])] [K.iv 3, K.iv 0, K.iv 4, K.iv 0] hS (fun w => K.bs_run (P := Try.prog) w 78 80 2 _ _ Try.underlying78 (by kernel_rfl)) ?_)
      clear hS; intro w r_18 g_19 hg_20 hS
      refine K.q [.slice (some ⟨r_18, 0, none⟩) 2 2] (K.z (K.t (K.r (K.u ?_))))
      have hk : op = 5 := by omega
      subst hk
      refine ⟨.inr rfl, rfl, (.slice (some ⟨r_18, 0, none⟩) 2 2), K.res1 rfl rfl, [g_19], ?_, hS.pick [0, 1]⟩
      exact ⟨_, _, rfl, rfl, K.OwnG.ofPt hg_20 2 (by unfold maxLen; omega) rfl⟩
     ·
      refine K.xe (op : Int) (5 : Int) h_17 ?_
      refine K.z (K.t (K.f (K.k (K.t (K.s (K.s (K.g (K.q [K.iv op] ?_))))))))
      by_cases h_21 : (op : Int) = (6 : Int)
      ·
       refine K.ye (op : Int) (6 : Int) h_21 ?_
       refine K.z (K.t (K.h (K.s (K.g ?_))))
       refine K.a (K.QR.bd [(0, K.iv 1), (1, K.iv 0)] [K.iv 1, K.iv 0] rfl rfl (by kernel_rfl)) ?_
       refine K.a (K.QR.bd [(0, K.iv 3), (1, K.iv 1)] [K.iv 3, K.iv 1] rfl rfl (by kernel_rfl)) ?_
       refine K.a (K.QR.bd [(0, K.iv 5), (1, K.iv 0)] [K.iv 5, K.iv 0] rfl rfl (by kernel_rfl)) ?_
       refine K.l (K.OW.gbs [(0, .agg #[K.iv 1, K.iv 0]), (1, .agg #[K.iv 3, K.iv 1]), (2, .agg #[K.iv 5, K.iv 0])] [K.iv 1, K.iv 0, K.iv 3, K.iv 1, K.iv 5, K.iv 0] hS (fun w => K.bs_run (P := Try.prog) w 78 80 3 _ _ Try.underlying78 (by kernel_rfl)) ?_)
       clear hS; intro w r_22 g_23 hg_24 hS
       refine K.q [.slice (some ⟨r_22, 0, none⟩) 3 3] (K.z (K.t (K.r (K.u ?_))))
       have hk : op = 6 := by omega
       subst hk
       refine ⟨.inr rfl, rfl, (.slice (some ⟨r_22, 0, none⟩) 3 3), K.res1 rfl rfl, [g_23], ?_, hS.pick [0, 1]⟩
       exact ⟨_, _, rfl, rfl, K.OwnG.ofPt hg_24 3 (by unfold maxLen; omega) rfl⟩
      ·
       refine K.xe (op : Int) (6 : Int) h_21 ?_
       refine K.z (K.t (K.f (K.k (K.t (K.s (K.s (K.g (K.q [K.iv op] ?_))))))))
       by_cases h_25 : (op : Int) = (7 : Int)
       ·
        refine K.ye (op : Int) (7 : Int) h_25 ?_
        refine K.z (K.t (K.h (K.s (K.g ?_))))
        refine K.a (K.QR.bd [(0, K.iv 3), (1, K.iv 1)] [K.iv 3, K.iv 1] rfl rfl (by kernel_rfl)) ?_
        refine K.a (K.QR.bd [(0, K.iv 4), (1, K.iv 0)] [K.iv 4, K.iv 0] rfl rfl (by kernel_rfl)) ?_
        refine K.l (K.OW.gbs [(0, .agg #[K.iv 3, K.iv 1]), (1, .agg #[K.iv 4, K.iv 0])] [K.iv 3, K.iv 1, K.iv 4, K.iv 0] hS (fun w => K.bs_run (P := Try.prog) w 78 80 2 _ _ Try.underlying78 (by kernel_rfl)) ?_)
        clear hS; intro w r_26 g_27 hg_28 hS
        refine K.q [.slice (some ⟨r_26, 0, none⟩) 2 2] (K.z (K.t (K.r (K.u ?_))))
        have hk : op = 7 := by omega
        subst hk
        refine ⟨.inr rfl, rfl, (.slice (some ⟨r_26, 0, none⟩) 2 2), K.res1 rfl rfl, [g_27], ?_, hS.pick [0, 1]⟩
        exact ⟨_, _, rfl, rfl, K.OwnG.ofPt hg_28 2 (by unfold maxLen; omega) rfl⟩
       ·
        refine K.xe (op : Int) (7 : Int) h_25 ?_
        refine K.z (K.t (K.f (K.k (K.t (K.s (K.g ?_))))))
        refine K.a (K.QR.bd [(0, K.iv 1), (1, K.iv 1)] [K.iv 1, K.iv 1] rfl rfl (by kernel_rfl)) ?_
        refine K.a (K.QR.bd [(0, K.iv 4), (1, K.iv 0)] [K.iv 4, K.iv 0] rfl rfl (by kernel_rfl)) ?_
        refine K.a (K.QR.bd [(0, K.iv 5), (1, K.iv 0)] [K.iv 5, K.iv 0] rfl rfl (by kernel_rfl)) ?_
        refine K.l (K.OW.gbs [(0, .agg #[K.iv 1, K.iv 1]), (1, .agg #[K.iv 4, K.iv 0]), (2, .agg #[K.iv 5, K.iv 0])] [K.iv 1, K.iv 1, K.iv 4, K.iv 0, K.iv 5, K.iv 0] hS (fun w => K.bs_run (P := Try.prog) w 78 80 3 _ _ Try.underlying78 (by kernel_rfl)) ?_)
        clear hS; intro w r_29 g_30 hg_31 hS
        refine K.q [.slice (some ⟨r_29, 0, none⟩) 3 3] (K.z (K.t (K.r ?_)))
        have hk : op = 8 := by omega
        subst hk
        refine ⟨.inr rfl, rfl, (.slice (some ⟨r_29, 0, none⟩) 3 3), K.res1 rfl rfl, [g_30], ?_, hS.pick [0, 1]⟩
        exact ⟨_, _, rfl, rfl, K.OwnG.ofPt hg_31 3 (by unfold maxLen; omega) rfl⟩
set_option maxHeartbeats 8000000 in
set_option maxRecDepth 100000 in
theorem dmay_ok (w0 : World) (c : CallM) :
  K.GC Try.prog w0 30 #[.agg #[K.iv c.th, K.iv c.ok, .int .u32 c.key, .int .u32 c.val, K.iv c.rk, .int .u32 c.rv, K.iv c.beg, K.iv c.en, K.iv c.wh, .bool c.cr, .bool c.kp]] [] (fun v post => post = [] ∧ ((mayH c ∧ v = .bool true) ∨ (¬ (mayH c) ∧ v = .bool false))) := by
 refine K.GC.mk (n := 119) Try.func30 rfl rfl [.agg #[K.iv c.th, K.iv c.ok, .int .u32 c.key, .int .u32 c.val, K.iv c.rk, .int .u32 c.rv, K.iv c.beg, K.iv c.en, K.iv c.wh, .bool c.cr, .bool c.kp]] rfl rfl ?_
 intro fr w hS
 replace hS : K.Sat w0 [fr] w := hS
 refine K.s (K.g ?_)
 refine K.l (K.OW.gnew 51 [K.iv c.th, K.iv c.ok, .int .u32 c.key, .int .u32 c.val, K.iv c.rk, .int .u32 c.rv, K.iv c.beg, K.iv c.en, K.iv c.wh, .bool c.cr, .bool c.kp] hS ?_)
 clear hS; intro w r_1 g_2 hg_3 hS
 refine K.q [.bool false] (K.z (K.t (K.s (K.s (K.g (K.q [.pointer (some ⟨r_1, 1, none⟩), .pointer (some ⟨r_1, 1, none⟩)] ?_))))))
 refine K.d (K.iv c.ok) ((hS.blk 0 rfl hg_3).cell rfl) ?_
 by_cases h_4 : (c.ok : Int) < (1 : Int)
 ·
  refine K.y ((c.ok : Int) < (1 : Int)) h_4 ?_
  refine K.q [.bool true] (K.n_ (K.n_ (K.n_ (K.n_ (K.q [.bool true, .bool true] (K.n_ (K.n_ (K.n_ (K.q [.bool true] (K.z (K.t (K.h (K.s (K.g ?_))))))))))))))
  refine K.q [.bool false] (K.z (K.t (K.r (K.u ?_))))
  refine ⟨.inr rfl, rfl, (.bool false), K.res1 rfl rfl, [], ?_, hS.pick [1]⟩
  exact ⟨rfl, .inr ⟨fun hh => by unfold mayH brokenH answeredH looksK at hh; first | omega | simp_all | (simp_all; omega), rfl⟩⟩
 ·
  refine K.x ((c.ok : Int) < (1 : Int)) h_4 ?_
  refine K.q [.bool false, .pointer (some ⟨r_1, 1, none⟩), .pointer (some ⟨r_1, 1, none⟩)] ?_
  refine K.d (K.iv c.ok) ((hS.blk 0 rfl hg_3).cell rfl) ?_
  by_cases h_5 : (c.ok : Int) > (8 : Int)
  ·
   refine K.y ((c.ok : Int) > (8 : Int)) h_5 ?_
   refine K.q [.bool true, .bool true] (K.n_ (K.n_ (K.n_ (K.q [.bool true] (K.z (K.t (K.h (K.s (K.g (K.q [.bool false] (K.z (K.t (K.r (K.u ?_))))))))))))))
   refine ⟨.inr rfl, rfl, (.bool false), K.res1 rfl rfl, [], ?_, hS.pick [1]⟩
   exact ⟨rfl, .inr ⟨fun hh => by unfold mayH brokenH answeredH looksK at hh; first | omega | simp_all | (simp_all; omega), rfl⟩⟩
  ·
   refine K.x ((c.ok : Int) > (8 : Int)) h_5 ?_
   refine K.q [.bool false, .bool false, .pointer (some ⟨r_1, 6, none⟩)] ?_
   refine K.d (K.iv c.beg) ((hS.blk 0 rfl hg_3).cell rfl) ?_
   by_cases h_6 : (c.beg : Int) < (0 : Int)
   ·
    refine K.y ((c.beg : Int) < (0 : Int)) h_6 ?_
    refine K.q [.bool true] (K.z (K.t (K.h (K.s (K.g (K.q [.bool false] (K.z (K.t (K.r (K.u ?_))))))))))
    refine ⟨.inr rfl, rfl, (.bool false), K.res1 rfl rfl, [], ?_, hS.pick [1]⟩
    exact ⟨rfl, .inr ⟨fun hh => by unfold mayH brokenH answeredH looksK at hh; first | omega | simp_all | (simp_all; omega), rfl⟩⟩
   ·
    refine K.x ((c.beg : Int) < (0 : Int)) h_6 ?_
    refine K.q [.bool false] (K.z (K.t (K.f (K.k (K.t (K.s (K.s (K.g (K.q [.pointer (some ⟨r_1, 9, none⟩)] ?_)))))))))
    refine K.d (.bool c.cr) ((hS.blk 0 rfl hg_3).cell rfl) ?_
    cases hb_7 : c.cr
    ·
     refine K.z (K.t (K.f (K.k (K.t (K.s ?_)))))
     have hk8 : 1 ≤ c.ok ∧ c.ok ≤ 8 := by omega
     have hrl := resL_len c.ok
     refine K.g (K.q [.pointer (some ⟨r_1, 1, none⟩), .pointer (some ⟨r_1, 1, none⟩)] ?_)
     refine K.d (K.iv c.ok) ((hS.blk 0 rfl hg_3).cell rfl) ?_
     refine K.l (K.OW.gcall hS [] [0, 1] [K.iv c.ok] (results_ok _ c.ok (by omega)) ?_)
     clear hS; rintro _ _ w ⟨r_8, g_9, rfl, rfl, o_10⟩ hS
     replace hS : K.Sat w0 [g_9, g_2, fr] w := hS
     refine K.q [.slice (some ⟨r_8, 0, none⟩) ((resL c.ok).length) ((resL c.ok).length)] (K.z (K.t (K.s (K.s (K.g (K.q [K.iv 0] (K.z (K.t ?_))))))))
     refine K.KW.block ?_
     refine K.KW.loop (fun m_ F_ w_ => ∃ (i : Nat), m_ = 3 - i ∧ K.Sl F_ [(0, .agg #[K.iv c.th, K.iv c.ok, .int .u32 c.key, .int .u32 c.val, K.iv c.rk, .int .u32 c.rv, K.iv c.beg, K.iv c.en, K.iv c.wh, .bool c.cr, .bool c.kp]), (1, K.pa r_1), (5, .slice (some ⟨r_8, 0, none⟩) ((resL c.ok).length) ((resL c.ok).length)), (6, K.iv ((i : Nat) : Int)), (119, undef)] ∧ i ≤ (resL c.ok).length ∧ (∀ q, q < i → ¬ (((resL c.ok).getD q (0, 0)).1 = c.rk ∧ (((resL c.ok).getD q (0, 0)).2 = 1 ∨ c.rv = 0))) ∧ K.Sat w0 [g_9, g_2, fr] w_) ((fun (i : Nat) => 3 - i) 0) ?_ ?_
     ·
      exact ⟨0, rfl, ⟨by (have hcr9 : c.cr = false := by assumption); rw [hcr9]; rfl, by rfl, by rfl, by rfl, by rfl, trivial⟩, (by omega), (fun q hq => by omega), hS.pick [0, 1, 2]⟩
     ·
      clear hS
      intro m_11 F_12 w hI
      obtain ⟨i, rfl, sl_13, p_14, hnr, hS⟩ := hI
      rw [← K.Sl.puts sl_13]; clear sl_13
      refine K.s (K.s (K.g (K.q [K.iv ((i : Nat) : Int), .slice (some ⟨r_8, 0, none⟩) ((resL c.ok).length) ((resL c.ok).length)] ?_)))
      refine K.a (K.QR.len (P := Try.prog) rfl rfl Try.underlying78) ?_
      by_cases h_15 : (((i : Nat) : Int) : Int) < ((((resL c.ok).length : Nat) : Int) : Int)
      ·
       refine K.y ((((i : Nat) : Int) : Int) < ((((resL c.ok).length : Nat) : Int) : Int)) h_15 ?_
       refine K.z (K.t (K.h (K.k (K.t (K.s ?_)))))
       refine K.KW.block ?_
       refine K.s ?_
       refine K.KW.gdrawn [0] hS (by kernel_rfl) ?_
       clear hS; intro w hS
       refine K.p 0 rfl (.slice (some ⟨r_8, 0, none⟩) ((resL c.ok).length) ((resL c.ok).length)) (hS.pick [0]) ?_
       refine K.p 1 rfl (K.iv ((i : Nat) : Int)) (hS.pick [0]) ?_
       refine K.m 2 rfl (fun w hS => K.QR.ix (0 + i * 2) 2 rfl rfl rfl Try.underlying78 (by kernel_rfl) (by omega) (by first | (simp; done) | omega | (simp; omega))) (hS.pick [0]) ?_
       refine K.m 3 rfl (fun w hS => K.QR.ixA (0 + i * 2) 1 rfl rfl rfl Try.underlying80 (by kernel_rfl) (by omega) (by first | rfl | simp)) (hS.pick [0]) ?_
       refine K.o_ 4 rfl (K.iv (((resL c.ok).getD i ((0, 0) : Int × Int)).1)) (fun w hS => ((K.Own.rowE ((0, 0) : Int × Int) (hS.ownr 0 rfl o_10) rfl (fun _ => rfl)).ld i (by omega) 0 _ rfl)) (hS.pick [0]) ?_
       refine K.b 5 rfl (.pointer (some ⟨r_1, 4, none⟩)) (hS.pick [0]) ?_
       refine K.b 6 rfl (.pointer (some ⟨r_1, 4, none⟩)) (hS.pick [0]) ?_
       refine K.c 7 rfl (K.QR.ld1 (v := K.iv c.rk) rfl rfl (by kernel_rfl) ((hS.blk 1 rfl hg_3).cell rfl)) (hS.pick [0]) ?_
       by_cases h_16 : (((resL c.ok).getD i ((0, 0) : Int × Int)).1 : Int) = (c.rk : Int)
       ·
        refine K.c 8 rfl (K.QR.nice (v := .bool ((((resL c.ok).getD i ((0, 0) : Int × Int)).1 : Int) == (c.rk : Int))) (by kernel_rfl) (congrArg Value.bool (beq_iff_eq.2 h_16))) (hS.pick [0]) ?_
        refine K.b 9 rfl (.bool true) (hS.pick [0]) ?_
        refine K.p 10 rfl (.slice (some ⟨r_8, 0, none⟩) ((resL c.ok).length) ((resL c.ok).length)) (hS.pick [0]) ?_
        refine K.b 11 rfl (K.iv ((i : Nat) : Int)) (hS.pick [0]) ?_
        refine K.c 12 rfl (K.QR.ix (0 + i * 2) 2 rfl rfl rfl Try.underlying78 (by kernel_rfl) (by omega) (by first | (simp; done) | omega | (simp; omega))) (hS.pick [0]) ?_
        refine K.c 13 rfl (K.QR.ixA (0 + i * 2 + 1) 1 rfl rfl rfl Try.underlying80 (by kernel_rfl) (by omega) (by first | rfl | simp)) (hS.pick [0]) ?_
        refine K.c 14 rfl (K.QR.ld1 (v := K.iv (((resL c.ok).getD i ((0, 0) : Int × Int)).2)) rfl rfl (by kernel_rfl) ((K.Own.rowE ((0, 0) : Int × Int) (hS.ownr 0 rfl o_10) rfl (fun _ => rfl)).ld i (by omega) 1 _ rfl)) (hS.pick [0]) ?_
        by_cases h_17 : (((resL c.ok).getD i ((0, 0) : Int × Int)).2 : Int) = (1 : Int)
        ·
         refine K.c 15 rfl (K.QR.nice (v := .bool ((((resL c.ok).getD i ((0, 0) : Int × Int)).2 : Int) == (1 : Int))) (by kernel_rfl) (congrArg Value.bool (beq_iff_eq.2 h_17))) (hS.pick [0]) ?_
         refine K.b 16 rfl (.bool true) (hS.pick [0]) ?_
         refine K.w_ 17 rfl (hS.pick [0]) ?_
         refine K.w_ 18 rfl (hS.pick [0]) ?_
         refine K.w_ 19 rfl (hS.pick [0]) ?_
         refine K.w_ 20 rfl (hS.pick [0]) ?_
         refine K.b 21 rfl (.bool true) (hS.pick [0]) ?_
         refine K.b 22 rfl (.bool true) (hS.pick [0]) ?_
         refine K.DW.done (by kernel_rfl) ?_
         refine K.t (K.h (K.s (K.g (K.q [.pointer (some ⟨r_1, 10, none⟩)] ?_))))
         refine K.d (.bool c.kp) ((hS.blk 1 rfl hg_3).cell rfl) ?_
         cases hb_18 : c.kp
         ·
          refine K.q [.bool true, .bool true, .pointer (some ⟨r_1, 6, none⟩)] ?_
          refine K.d (K.iv c.beg) ((hS.blk 1 rfl hg_3).cell rfl) ?_
          refine K.q [.pointer (some ⟨r_1, 8, none⟩)] ?_
          refine K.d (K.iv c.wh) ((hS.blk 1 rfl hg_3).cell rfl) ?_
          by_cases h_19 : (c.beg : Int) < (c.wh : Int)
          ·
           refine K.y ((c.beg : Int) < (c.wh : Int)) h_19 ?_
           refine K.q [.bool true, .bool true, .pointer (some ⟨r_1, 8, none⟩)] ?_
           refine K.d (K.iv c.wh) ((hS.blk 1 rfl hg_3).cell rfl) ?_
           refine K.q [.pointer (some ⟨r_1, 7, none⟩)] ?_
           refine K.d (K.iv c.en) ((hS.blk 1 rfl hg_3).cell rfl) ?_
           by_cases h_20 : (c.wh : Int) ≤ (c.en : Int)
           ·
            refine K.y ((c.wh : Int) ≤ (c.en : Int)) h_20 ?_
            refine K.q [.bool true, .bool true] (K.z (K.t (K.r ?_)))
            refine K.blk_ret ?_
            refine K.u (K.u ?_)
            refine K.blk_ret ?_
            refine K.u ?_
            have hx9 := (resL_iff (kind := c.rk) (rv := c.rv) hk8).1 ⟨i, by omega, by omega, by omega⟩
            refine ⟨.inr rfl, rfl, (.bool true), K.res1 rfl rfl, [], ?_, hS.pick [2]⟩
            exact ⟨rfl, .inl ⟨⟨by omega, .inr ⟨by assumption, ⟨by assumption, by omega, by omega⟩, hx9⟩⟩, rfl⟩⟩
           ·
            refine K.x ((c.wh : Int) ≤ (c.en : Int)) h_20 ?_
            refine K.q [.bool false, .bool false] (K.z (K.t (K.r ?_)))
            refine K.blk_ret ?_
            refine K.u (K.u ?_)
            refine K.blk_ret ?_
            refine K.u ?_
            have hx9 := (resL_iff (kind := c.rk) (rv := c.rv) hk8).1 ⟨i, by omega, by omega, by omega⟩
            refine ⟨.inr rfl, rfl, (.bool false), K.res1 rfl rfl, [], ?_, hS.pick [2]⟩
            exact ⟨rfl, .inr ⟨fun hh => by rcases hh.2 with hq | hq; (have := hq.1; simp_all); (have := hq.2.1; first | omega | simp_all), rfl⟩⟩
          ·
           refine K.x ((c.beg : Int) < (c.wh : Int)) h_19 ?_
           refine K.q [.bool false, .bool false] (K.n_ (K.n_ (K.n_ (K.n_ (K.n_ (K.q [.bool false, .bool false] (K.z (K.t (K.r ?_)))))))))
           refine K.blk_ret ?_
           refine K.u (K.u ?_)
           refine K.blk_ret ?_
           refine K.u ?_
           have hx9 := (resL_iff (kind := c.rk) (rv := c.rv) hk8).1 ⟨i, by omega, by omega, by omega⟩
           refine ⟨.inr rfl, rfl, (.bool false), K.res1 rfl rfl, [], ?_, hS.pick [2]⟩
           exact ⟨rfl, .inr ⟨fun hh => by rcases hh.2 with hq | hq; (have := hq.1; simp_all); (have := hq.2.1; first | omega | simp_all), rfl⟩⟩
         ·
          refine K.q [.bool false, .bool false] (K.n_ (K.n_ (K.n_ (K.n_ (K.n_ (K.q [.bool false, .bool false] (K.n_ (K.n_ (K.n_ (K.n_ (K.n_ (K.q [.bool false, .bool false] (K.z (K.t ?_))))))))))))))
          refine K.r ?_
          refine K.blk_ret ?_
          refine K.u (K.u ?_)
          refine K.blk_ret ?_
          refine K.u ?_
          have hx9 := (resL_iff (kind := c.rk) (rv := c.rv) hk8).1 ⟨i, by omega, by omega, by omega⟩
          refine ⟨.inr rfl, rfl, (.bool false), K.res1 rfl rfl, [], ?_, hS.pick [2]⟩
          exact ⟨rfl, .inr ⟨fun hh => by rcases hh.2 with hq | hq; (have := hq.1; simp_all); (have := hq.2.1; first | omega | simp_all), rfl⟩⟩
        ·
         refine K.c 15 rfl (K.QR.nice (v := .bool ((((resL c.ok).getD i ((0, 0) : Int × Int)).2 : Int) == (1 : Int))) (by kernel_rfl) (congrArg Value.bool (beq_eq_false_iff_ne.2 h_17))) (hS.pick [0]) ?_
         refine K.b 16 rfl (.bool false) (hS.pick [0]) ?_
         refine K.b 17 rfl (.pointer (some ⟨r_1, 4, none⟩)) (hS.pick [0]) ?_
         refine K.b 18 rfl (.pointer (some ⟨r_1, 5, none⟩)) (hS.pick [0]) ?_
         refine K.c 19 rfl (K.QR.ld1 (v := .int .u32 c.rv) rfl rfl (by kernel_rfl) ((hS.blk 1 rfl hg_3).cell rfl)) (hS.pick [0]) ?_
         by_cases h_21 : (c.rv : Int) = (0 : Int)
         ·
          refine K.c 20 rfl (K.QR.nice (v := .bool ((c.rv : Int) == (0 : Int))) (by kernel_rfl) (congrArg Value.bool (beq_iff_eq.2 h_21))) (hS.pick [0]) ?_
          refine K.b 21 rfl (.bool true) (hS.pick [0]) ?_
          refine K.b 22 rfl (.bool true) (hS.pick [0]) ?_
          refine K.DW.done (by kernel_rfl) ?_
          refine K.t (K.h (K.s (K.g (K.q [.pointer (some ⟨r_1, 10, none⟩)] ?_))))
          refine K.d (.bool c.kp) ((hS.blk 1 rfl hg_3).cell rfl) ?_
          cases hb_22 : c.kp
          ·
           refine K.q [.bool true, .bool true, .pointer (some ⟨r_1, 6, none⟩)] ?_
           refine K.d (K.iv c.beg) ((hS.blk 1 rfl hg_3).cell rfl) ?_
           refine K.q [.pointer (some ⟨r_1, 8, none⟩)] ?_
           refine K.d (K.iv c.wh) ((hS.blk 1 rfl hg_3).cell rfl) ?_
           by_cases h_23 : (c.beg : Int) < (c.wh : Int)
           ·
            refine K.y ((c.beg : Int) < (c.wh : Int)) h_23 ?_
            refine K.q [.bool true, .bool true, .pointer (some ⟨r_1, 8, none⟩)] ?_
            refine K.d (K.iv c.wh) ((hS.blk 1 rfl hg_3).cell rfl) ?_
            refine K.q [.pointer (some ⟨r_1, 7, none⟩)] ?_
            refine K.d (K.iv c.en) ((hS.blk 1 rfl hg_3).cell rfl) ?_
            by_cases h_24 : (c.wh : Int) ≤ (c.en : Int)
            ·
             refine K.y ((c.wh : Int) ≤ (c.en : Int)) h_24 ?_
             refine K.q [.bool true, .bool true] (K.z (K.t (K.r ?_)))
             refine K.blk_ret ?_
             refine K.u (K.u ?_)
             refine K.blk_ret ?_
             refine K.u ?_
             have hx9 := (resL_iff (kind := c.rk) (rv := c.rv) hk8).1 ⟨i, by omega, by omega, by omega⟩
             refine ⟨.inr rfl, rfl, (.bool true), K.res1 rfl rfl, [], ?_, hS.pick [2]⟩
             exact ⟨rfl, .inl ⟨⟨by omega, .inr ⟨by assumption, ⟨by assumption, by omega, by omega⟩, hx9⟩⟩, rfl⟩⟩
            ·
             refine K.x ((c.wh : Int) ≤ (c.en : Int)) h_24 ?_
             refine K.q [.bool false, .bool false] (K.z (K.t (K.r ?_)))
             refine K.blk_ret ?_
             refine K.u (K.u ?_)
             refine K.blk_ret ?_
             refine K.u ?_
             have hx9 := (resL_iff (kind := c.rk) (rv := c.rv) hk8).1 ⟨i, by omega, by omega, by omega⟩
             refine ⟨.inr rfl, rfl, (.bool false), K.res1 rfl rfl, [], ?_, hS.pick [2]⟩
             exact ⟨rfl, .inr ⟨fun hh => by rcases hh.2 with hq | hq; (have := hq.1; simp_all); (have := hq.2.1; first | omega | simp_all), rfl⟩⟩
           ·
            refine K.x ((c.beg : Int) < (c.wh : Int)) h_23 ?_
            refine K.q [.bool false, .bool false] (K.n_ (K.n_ (K.n_ (K.n_ (K.n_ (K.q [.bool false, .bool false] (K.z (K.t (K.r ?_)))))))))
            refine K.blk_ret ?_
            refine K.u (K.u ?_)
            refine K.blk_ret ?_
            refine K.u ?_
            have hx9 := (resL_iff (kind := c.rk) (rv := c.rv) hk8).1 ⟨i, by omega, by omega, by omega⟩
            refine ⟨.inr rfl, rfl, (.bool false), K.res1 rfl rfl, [], ?_, hS.pick [2]⟩
            exact ⟨rfl, .inr ⟨fun hh => by rcases hh.2 with hq | hq; (have := hq.1; simp_all); (have := hq.2.1; first | omega | simp_all), rfl⟩⟩
          ·
           refine K.q [.bool false, .bool false] (K.n_ (K.n_ (K.n_ (K.n_ (K.n_ (K.q [.bool false, .bool false] (K.n_ (K.n_ (K.n_ (K.n_ (K.n_ (K.q [.bool false, .bool false] (K.z (K.t ?_))))))))))))))
           refine K.r ?_
           refine K.blk_ret ?_
           refine K.u (K.u ?_)
           refine K.blk_ret ?_
           refine K.u ?_
           have hx9 := (resL_iff (kind := c.rk) (rv := c.rv) hk8).1 ⟨i, by omega, by omega, by omega⟩
           refine ⟨.inr rfl, rfl, (.bool false), K.res1 rfl rfl, [], ?_, hS.pick [2]⟩
           exact ⟨rfl, .inr ⟨fun hh => by rcases hh.2 with hq | hq; (have := hq.1; simp_all); (have := hq.2.1; first | omega | simp_all), rfl⟩⟩
         ·
          refine K.c 20 rfl (K.QR.nice (v := .bool ((c.rv : Int) == (0 : Int))) (by kernel_rfl) (congrArg Value.bool (beq_eq_false_iff_ne.2 h_21))) (hS.pick [0]) ?_
          refine K.b 21 rfl (.bool false) (hS.pick [0]) ?_
          refine K.b 22 rfl (.bool false) (hS.pick [0]) ?_
          refine K.DW.done (by kernel_rfl) ?_
          refine K.t (K.f (K.k ?_))
          refine K.blk_normal ?_
          refine K.t (K.g (K.q [K.iv ((i : Nat) : Int)] ?_))
          refine K.a (K.QR.n64 ((((i : Nat) : Int) : Int) + (1 : Int)) ((i + 1 : Nat) : Int) (by kernel_rfl) (by omega)) ?_
          refine K.q [K.iv ((i + 1 : Nat) : Int)] (K.z (K.t ?_))
          refine ⟨_, ?_, i + 1, rfl, ⟨by rfl, by rfl, by rfl, by rfl, by rfl, trivial⟩, (by omega), (K.all_snoc hnr (by omega)), hS.pick [0, 1, 2]⟩
          omega
       ·
        refine K.c 8 rfl (K.QR.nice (v := .bool ((((resL c.ok).getD i ((0, 0) : Int × Int)).1 : Int) == (c.rk : Int))) (by kernel_rfl) (congrArg Value.bool (beq_eq_false_iff_ne.2 h_16))) (hS.pick [0]) ?_
        refine K.b 9 rfl (.bool false) (hS.pick [0]) ?_
        refine K.w_ 10 rfl (hS.pick [0]) ?_
        refine K.w_ 11 rfl (hS.pick [0]) ?_
        refine K.w_ 12 rfl (hS.pick [0]) ?_
        refine K.w_ 13 rfl (hS.pick [0]) ?_
        refine K.w_ 14 rfl (hS.pick [0]) ?_
        refine K.w_ 15 rfl (hS.pick [0]) ?_
        refine K.w_ 16 rfl (hS.pick [0]) ?_
        refine K.w_ 17 rfl (hS.pick [0]) ?_
        refine K.w_ 18 rfl (hS.pick [0]) ?_
        refine K.w_ 19 rfl (hS.pick [0]) ?_
        refine K.w_ 20 rfl (hS.pick [0]) ?_
        refine K.w_ 21 rfl (hS.pick [0]) ?_
        refine K.b 22 rfl (.bool false) (hS.pick [0]) ?_
        refine K.DW.done (by kernel_rfl) ?_
        refine K.t (K.f (K.k ?_))
        refine K.blk_normal ?_
        refine K.t (K.g (K.q [K.iv ((i : Nat) : Int)] ?_))
        refine K.a (K.QR.n64 ((((i : Nat) : Int) : Int) + (1 : Int)) ((i + 1 : Nat) : Int) (by kernel_rfl) (by omega)) ?_
        refine K.q [K.iv ((i + 1 : Nat) : Int)] (K.z (K.t ?_))
        refine ⟨_, ?_, i + 1, rfl, ⟨by rfl, by rfl, by rfl, by rfl, by rfl, trivial⟩, (by omega), (K.all_snoc hnr (by omega)), hS.pick [0, 1, 2]⟩
        omega
      ·
       refine K.x ((((i : Nat) : Int) : Int) < ((((resL c.ok).length : Nat) : Int) : Int)) h_15 ?_
       refine K.z (K.t (K.f ?_))
       refine K.KW.exit ?_
       refine K.thn_exit ?_
       refine K.thn_exit ?_
       refine K.blk_hit ?_
       refine K.t (K.s (K.g (K.q [.bool false] (K.z (K.t (K.r ?_))))))
       refine ⟨.inr rfl, rfl, (.bool false), K.res1 rfl rfl, [], ?_, hS.pick [2]⟩
       exact ⟨rfl, .inr ⟨fun hh => by rcases hh.2 with hq | hq; (have := hq.1; simp_all); (obtain ⟨q, q1, q2⟩ := (resL_iff hk8).2 hq.2.2; exact hnr q (by omega) q2), rfl⟩⟩
    ·
     refine K.z (K.t (K.h (K.s (K.g (K.q [.pointer (some ⟨r_1, 8, none⟩)] ?_)))))
     refine K.d (K.iv c.wh) ((hS.blk 0 rfl hg_3).cell rfl) ?_
     by_cases h_25 : (c.wh : Int) = ((-1) : Int)
     ·
      refine K.ye (c.wh : Int) ((-1) : Int) h_25 ?_
      refine K.q [.bool true, .pointer (some ⟨r_1, 10, none⟩)] ?_
      refine K.d (.bool c.kp) ((hS.blk 0 rfl hg_3).cell rfl) ?_
      cases hb_26 : c.kp
      ·
       refine K.q [.bool true, .bool true, .bool true] (K.z (K.t (K.s (K.g (K.q [.pointer (some ⟨r_1, 8, none⟩)] ?_)))))
       refine K.d (K.iv c.wh) ((hS.blk 0 rfl hg_3).cell rfl) ?_
       refine K.xn (c.wh : Int) ((-1) : Int) h_25 ?_
       refine K.q [.bool false] (K.n_ (K.n_ (K.n_ (K.n_ (K.n_ (K.q [.bool false, .bool false] (K.n_ (K.n_ (K.n_ (K.n_ (K.q [.bool false, .bool false] (K.n_ (K.n_ (K.n_ ?_))))))))))))))
       refine K.n_ (K.q [.bool false, .bool false] (K.z (K.t (K.s (K.g (K.q [.pointer (some ⟨r_1, 7, none⟩)] ?_))))))
       refine K.d (K.iv c.en) ((hS.blk 0 rfl hg_3).cell rfl) ?_
       by_cases h_27 : (c.en : Int) = ((-1) : Int)
       ·
        refine K.ye (c.en : Int) ((-1) : Int) h_27 ?_
        refine K.q [.bool true, .pointer (some ⟨r_1, 4, none⟩)] ?_
        refine K.a (K.QR.ldN [K.iv c.rk, .int .u32 c.rv] rfl rfl (by kernel_rfl) (by kernel_rfl) (K.cells (K.cl ((hS.blk 0 rfl hg_3).cell rfl) (K.cl ((hS.blk 0 rfl hg_3).cell rfl) K.cl0)))) ?_
        refine K.a (K.QR.bd [] [K.iv 0, .int .u32 0] rfl rfl (by kernel_rfl)) ?_
        by_cases h_28 : (c.rk : Int) = 0 ∧ (c.rv : Int) = 0
        ·
         refine K.a (K.QR.eqS (by kernel_rfl) rfl rfl rfl (eqRes_t h_28)) ?_
         refine K.q [.bool true, .bool true, .bool true, .bool true] (K.n_ (K.q [.bool true, .bool true, .bool true] (K.z (K.t (K.r (K.u ?_))))))
         refine ⟨.inr rfl, rfl, (.bool true), K.res1 rfl rfl, [], ?_, hS.pick [1]⟩
         exact ⟨rfl, .inl ⟨by unfold mayH brokenH looksK; first | omega | simp_all | (simp_all; omega), rfl⟩⟩
        ·
         refine K.a (K.QR.eqS (by kernel_rfl) rfl rfl rfl (eqRes_f h_28)) ?_
         refine K.q [.bool false, .bool false] (K.n_ (K.n_ (K.n_ (K.n_ (K.q [.bool false, .bool false] (K.z (K.t (K.r (K.u ?_)))))))))
         refine ⟨.inr rfl, rfl, (.bool false), K.res1 rfl rfl, [], ?_, hS.pick [1]⟩
         exact ⟨rfl, .inr ⟨fun hh => by unfold mayH brokenH answeredH looksK at hh; first | omega | simp_all | (simp_all; omega), rfl⟩⟩
       ·
        refine K.xe (c.en : Int) ((-1) : Int) h_27 ?_
        refine K.q [.bool false] (K.n_ (K.n_ (K.n_ (K.n_ (K.q [.bool false, .bool false] (K.n_ (K.n_ (K.n_ (K.n_ (K.q [.bool false, .bool false] (K.z (K.t (K.r (K.u ?_))))))))))))))
        refine ⟨.inr rfl, rfl, (.bool false), K.res1 rfl rfl, [], ?_, hS.pick [1]⟩
        exact ⟨rfl, .inr ⟨fun hh => by unfold mayH brokenH answeredH looksK at hh; first | omega | simp_all | (simp_all; omega), rfl⟩⟩
      ·
       refine K.q [.bool false, .bool false, .bool false] (K.z (K.t (K.s (K.g (K.q [.pointer (some ⟨r_1, 8, none⟩)] ?_)))))
       refine K.d (K.iv c.wh) ((hS.blk 0 rfl hg_3).cell rfl) ?_
       refine K.xn (c.wh : Int) ((-1) : Int) h_25 ?_
       refine K.q [.bool false] (K.n_ (K.n_ (K.n_ (K.n_ (K.n_ (K.q [.bool false, .bool false] (K.n_ (K.n_ (K.n_ (K.n_ (K.q [.bool false, .bool false] (K.n_ (K.n_ (K.n_ ?_))))))))))))))
       refine K.n_ (K.q [.bool false, .bool false] (K.z (K.t (K.s (K.g (K.q [.pointer (some ⟨r_1, 7, none⟩)] ?_))))))
       refine K.d (K.iv c.en) ((hS.blk 0 rfl hg_3).cell rfl) ?_
       by_cases h_29 : (c.en : Int) = ((-1) : Int)
       ·
        refine K.ye (c.en : Int) ((-1) : Int) h_29 ?_
        refine K.q [.bool true, .pointer (some ⟨r_1, 4, none⟩)] ?_
        refine K.a (K.QR.ldN [K.iv c.rk, .int .u32 c.rv] rfl rfl (by kernel_rfl) (by kernel_rfl) (K.cells (K.cl ((hS.blk 0 rfl hg_3).cell rfl) (K.cl ((hS.blk 0 rfl hg_3).cell rfl) K.cl0)))) ?_
        refine K.a (K.QR.bd [] [K.iv 0, .int .u32 0] rfl rfl (by kernel_rfl)) ?_
        by_cases h_30 : (c.rk : Int) = 0 ∧ (c.rv : Int) = 0
        ·
         refine K.a (K.QR.eqS (by kernel_rfl) rfl rfl rfl (eqRes_t h_30)) ?_
         refine K.q [.bool true, .bool true, .bool false, .bool false, .bool false, .bool false, .bool false, .bool false] (K.z (K.t (K.r (K.u ?_))))
         refine ⟨.inr rfl, rfl, (.bool false), K.res1 rfl rfl, [], ?_, hS.pick [1]⟩
         exact ⟨rfl, .inr ⟨fun hh => by unfold mayH brokenH answeredH looksK at hh; first | omega | simp_all | (simp_all; omega), rfl⟩⟩
        ·
         refine K.a (K.QR.eqS (by kernel_rfl) rfl rfl rfl (eqRes_f h_30)) ?_
         refine K.q [.bool false, .bool false] (K.n_ (K.n_ (K.n_ (K.n_ (K.q [.bool false, .bool false] (K.z (K.t (K.r (K.u ?_)))))))))
         refine ⟨.inr rfl, rfl, (.bool false), K.res1 rfl rfl, [], ?_, hS.pick [1]⟩
         exact ⟨rfl, .inr ⟨fun hh => by unfold mayH brokenH answeredH looksK at hh; first | omega | simp_all | (simp_all; omega), rfl⟩⟩
       ·
        refine K.xe (c.en : Int) ((-1) : Int) h_29 ?_
        refine K.q [.bool false] (K.n_ (K.n_ (K.n_ (K.n_ (K.q [.bool false, .bool false] (K.n_ (K.n_ (K.n_ (K.n_ (K.q [.bool false, .bool false] (K.z (K.t (K.r (K.u ?_))))))))))))))
        refine ⟨.inr rfl, rfl, (.bool false), K.res1 rfl rfl, [], ?_, hS.pick [1]⟩
        exact ⟨rfl, .inr ⟨fun hh => by unfold mayH brokenH answeredH looksK at hh; first | omega | simp_all | (simp_all; omega), rfl⟩⟩
     ·
      refine K.xe (c.wh : Int) ((-1) : Int) h_25 ?_
      refine K.q [.bool false] (K.n_ (K.n_ (K.n_ (K.q [.bool false, .bool false] (K.z (K.t (K.s (K.g (K.q [.pointer (some ⟨r_1, 8, none⟩)] ?_)))))))))
      refine K.d (K.iv c.wh) ((hS.blk 0 rfl hg_3).cell rfl) ?_
      refine K.yn (c.wh : Int) ((-1) : Int) h_25 ?_
      refine K.q [.bool true, .pointer (some ⟨r_1, 8, none⟩)] ?_
      refine K.d (K.iv c.wh) ((hS.blk 0 rfl hg_3).cell rfl) ?_
      refine K.q [.pointer (some ⟨r_1, 6, none⟩)] ?_
      refine K.d (K.iv c.beg) ((hS.blk 0 rfl hg_3).cell rfl) ?_
      by_cases h_31 : (c.wh : Int) > (c.beg : Int)
      ·
       refine K.y ((c.wh : Int) > (c.beg : Int)) h_31 ?_
       refine K.q [.bool true, .bool true, .pointer (some ⟨r_1, 1, none⟩), .pointer (some ⟨r_1, 1, none⟩)] ?_
       refine K.d (K.iv c.ok) ((hS.blk 0 rfl hg_3).cell rfl) ?_
       by_cases h_32 : (c.ok : Int) = (5 : Int)
       ·
        refine K.xn (c.ok : Int) (5 : Int) h_32 ?_
        refine K.q [.bool false, .bool false] (K.n_ (K.n_ (K.n_ (K.n_ (K.q [.bool false, .bool false] (K.z (K.t (K.s (K.g (K.q [.pointer (some ⟨r_1, 7, none⟩)] ?_))))))))))
        refine K.d (K.iv c.en) ((hS.blk 0 rfl hg_3).cell rfl) ?_
        by_cases h_33 : (c.en : Int) = ((-1) : Int)
        ·
         refine K.ye (c.en : Int) ((-1) : Int) h_33 ?_
         refine K.q [.bool true, .pointer (some ⟨r_1, 4, none⟩)] ?_
         refine K.a (K.QR.ldN [K.iv c.rk, .int .u32 c.rv] rfl rfl (by kernel_rfl) (by kernel_rfl) (K.cells (K.cl ((hS.blk 0 rfl hg_3).cell rfl) (K.cl ((hS.blk 0 rfl hg_3).cell rfl) K.cl0)))) ?_
         refine K.a (K.QR.bd [] [K.iv 0, .int .u32 0] rfl rfl (by kernel_rfl)) ?_
         by_cases h_34 : (c.rk : Int) = 0 ∧ (c.rv : Int) = 0
         ·
          refine K.a (K.QR.eqS (by kernel_rfl) rfl rfl rfl (eqRes_t h_34)) ?_
          refine K.q [.bool true, .bool true, .bool false, .bool false, .bool false, .bool false, .bool false, .bool false] (K.z (K.t (K.r (K.u ?_))))
          refine ⟨.inr rfl, rfl, (.bool false), K.res1 rfl rfl, [], ?_, hS.pick [1]⟩
          exact ⟨rfl, .inr ⟨fun hh => by unfold mayH brokenH answeredH looksK at hh; first | omega | simp_all | (simp_all; omega), rfl⟩⟩
         ·
          refine K.a (K.QR.eqS (by kernel_rfl) rfl rfl rfl (eqRes_f h_34)) ?_
          refine K.q [.bool false, .bool false] (K.n_ (K.n_ (K.n_ (K.n_ (K.q [.bool false, .bool false] (K.z (K.t (K.r (K.u ?_)))))))))
          refine ⟨.inr rfl, rfl, (.bool false), K.res1 rfl rfl, [], ?_, hS.pick [1]⟩
          exact ⟨rfl, .inr ⟨fun hh => by unfold mayH brokenH answeredH looksK at hh; first | omega | simp_all | (simp_all; omega), rfl⟩⟩
        ·
         refine K.xe (c.en : Int) ((-1) : Int) h_33 ?_
         refine K.q [.bool false] (K.n_ (K.n_ (K.n_ (K.n_ (K.q [.bool false, .bool false] (K.n_ (K.n_ (K.n_ (K.n_ (K.q [.bool false, .bool false] (K.z (K.t (K.r (K.u ?_))))))))))))))
         refine ⟨.inr rfl, rfl, (.bool false), K.res1 rfl rfl, [], ?_, hS.pick [1]⟩
         exact ⟨rfl, .inr ⟨fun hh => by unfold mayH brokenH answeredH looksK at hh; first | omega | simp_all | (simp_all; omega), rfl⟩⟩
       ·
        refine K.yn (c.ok : Int) (5 : Int) h_32 ?_
        refine K.q [.bool true, .bool true, .pointer (some ⟨r_1, 1, none⟩), .pointer (some ⟨r_1, 1, none⟩)] ?_
        refine K.d (K.iv c.ok) ((hS.blk 0 rfl hg_3).cell rfl) ?_
        by_cases h_35 : (c.ok : Int) = (7 : Int)
        ·
         refine K.xn (c.ok : Int) (7 : Int) h_35 ?_
         refine K.q [.bool false, .bool false] (K.z (K.t (K.s (K.g (K.q [.pointer (some ⟨r_1, 7, none⟩)] ?_)))))
         refine K.d (K.iv c.en) ((hS.blk 0 rfl hg_3).cell rfl) ?_
         by_cases h_36 : (c.en : Int) = ((-1) : Int)
         ·
          refine K.ye (c.en : Int) ((-1) : Int) h_36 ?_
          refine K.q [.bool true, .pointer (some ⟨r_1, 4, none⟩)] ?_
          refine K.a (K.QR.ldN [K.iv c.rk, .int .u32 c.rv] rfl rfl (by kernel_rfl) (by kernel_rfl) (K.cells (K.cl ((hS.blk 0 rfl hg_3).cell rfl) (K.cl ((hS.blk 0 rfl hg_3).cell rfl) K.cl0)))) ?_
          refine K.a (K.QR.bd [] [K.iv 0, .int .u32 0] rfl rfl (by kernel_rfl)) ?_
          by_cases h_37 : (c.rk : Int) = 0 ∧ (c.rv : Int) = 0
          ·
           refine K.a (K.QR.eqS (by kernel_rfl) rfl rfl rfl (eqRes_t h_37)) ?_
           refine K.q [.bool true, .bool true, .bool false, .bool false, .bool false, .bool false, .bool false, .bool false] (K.z (K.t (K.r (K.u ?_))))
           refine ⟨.inr rfl, rfl, (.bool false), K.res1 rfl rfl, [], ?_, hS.pick [1]⟩
           exact ⟨rfl, .inr ⟨fun hh => by unfold mayH brokenH answeredH looksK at hh; first | omega | simp_all | (simp_all; omega), rfl⟩⟩
          ·
           refine K.a (K.QR.eqS (by kernel_rfl) rfl rfl rfl (eqRes_f h_37)) ?_
           refine K.q [.bool false, .bool false] (K.n_ (K.n_ (K.n_ (K.n_ (K.q [.bool false, .bool false] (K.z (K.t (K.r (K.u ?_)))))))))
           refine ⟨.inr rfl, rfl, (.bool false), K.res1 rfl rfl, [], ?_, hS.pick [1]⟩
           exact ⟨rfl, .inr ⟨fun hh => by unfold mayH brokenH answeredH looksK at hh; first | omega | simp_all | (simp_all; omega), rfl⟩⟩
         ·
          refine K.xe (c.en : Int) ((-1) : Int) h_36 ?_
          refine K.q [.bool false] (K.n_ (K.n_ (K.n_ (K.n_ (K.q [.bool false, .bool false] (K.n_ (K.n_ (K.n_ (K.n_ (K.q [.bool false, .bool false] (K.z (K.t (K.r (K.u ?_))))))))))))))
          refine ⟨.inr rfl, rfl, (.bool false), K.res1 rfl rfl, [], ?_, hS.pick [1]⟩
          exact ⟨rfl, .inr ⟨fun hh => by unfold mayH brokenH answeredH looksK at hh; first | omega | simp_all | (simp_all; omega), rfl⟩⟩
        ·
         refine K.yn (c.ok : Int) (7 : Int) h_35 ?_
         refine K.q [.bool true, .bool true] (K.z (K.t (K.s (K.g (K.q [.pointer (some ⟨r_1, 7, none⟩)] ?_)))))
         refine K.d (K.iv c.en) ((hS.blk 0 rfl hg_3).cell rfl) ?_
         by_cases h_38 : (c.en : Int) = ((-1) : Int)
         ·
          refine K.ye (c.en : Int) ((-1) : Int) h_38 ?_
          refine K.q [.bool true, .pointer (some ⟨r_1, 4, none⟩)] ?_
          refine K.a (K.QR.ldN [K.iv c.rk, .int .u32 c.rv] rfl rfl (by kernel_rfl) (by kernel_rfl) (K.cells (K.cl ((hS.blk 0 rfl hg_3).cell rfl) (K.cl ((hS.blk 0 rfl hg_3).cell rfl) K.cl0)))) ?_
          refine K.a (K.QR.bd [] [K.iv 0, .int .u32 0] rfl rfl (by kernel_rfl)) ?_
          by_cases h_39 : (c.rk : Int) = 0 ∧ (c.rv : Int) = 0
          ·
           refine K.a (K.QR.eqS (by kernel_rfl) rfl rfl rfl (eqRes_t h_39)) ?_
           refine K.q [.bool true, .bool true, .bool false, .bool false, .bool true, .bool true, .bool true, .bool true] (K.z (K.t (K.r (K.u ?_))))
           refine ⟨.inr rfl, rfl, (.bool true), K.res1 rfl rfl, [], ?_, hS.pick [1]⟩
           exact ⟨rfl, .inl ⟨by unfold mayH brokenH looksK; first | omega | simp_all | (simp_all; omega), rfl⟩⟩
          ·
           refine K.a (K.QR.eqS (by kernel_rfl) rfl rfl rfl (eqRes_f h_39)) ?_
           refine K.q [.bool false, .bool false] (K.n_ (K.n_ (K.n_ (K.n_ (K.q [.bool false, .bool false] (K.z (K.t (K.r (K.u ?_)))))))))
           refine ⟨.inr rfl, rfl, (.bool false), K.res1 rfl rfl, [], ?_, hS.pick [1]⟩
           exact ⟨rfl, .inr ⟨fun hh => by unfold mayH brokenH answeredH looksK at hh; first | omega | simp_all | (simp_all; omega), rfl⟩⟩
         ·
          refine K.xe (c.en : Int) ((-1) : Int) h_38 ?_
          refine K.q [.bool false] (K.n_ (K.n_ (K.n_ (K.n_ (K.q [.bool false, .bool false] (K.n_ (K.n_ (K.n_ (K.n_ (K.q [.bool false, .bool false] (K.z (K.t (K.r (K.u ?_))))))))))))))
          refine ⟨.inr rfl, rfl, (.bool false), K.res1 rfl rfl, [], ?_, hS.pick [1]⟩
          exact ⟨rfl, .inr ⟨fun hh => by unfold mayH brokenH answeredH looksK at hh; first | omega | simp_all | (simp_all; omega), rfl⟩⟩
      ·
       refine K.x ((c.wh : Int) > (c.beg : Int)) h_31 ?_
       refine K.q [.bool false, .bool false] (K.n_ (K.n_ (K.n_ (K.n_ (K.q [.bool false, .bool false] (K.n_ (K.n_ (K.n_ (K.n_ (K.q [.bool false, .bool false] (K.z (K.t (K.s (K.g ?_))))))))))))))
       refine K.q [.pointer (some ⟨r_1, 7, none⟩)] ?_
       refine K.d (K.iv c.en) ((hS.blk 0 rfl hg_3).cell rfl) ?_
       by_cases h_40 : (c.en : Int) = ((-1) : Int)
       ·
        refine K.ye (c.en : Int) ((-1) : Int) h_40 ?_
        refine K.q [.bool true, .pointer (some ⟨r_1, 4, none⟩)] ?_
        refine K.a (K.QR.ldN [K.iv c.rk, .int .u32 c.rv] rfl rfl (by kernel_rfl) (by kernel_rfl) (K.cells (K.cl ((hS.blk 0 rfl hg_3).cell rfl) (K.cl ((hS.blk 0 rfl hg_3).cell rfl) K.cl0)))) ?_
        refine K.a (K.QR.bd [] [K.iv 0, .int .u32 0] rfl rfl (by kernel_rfl)) ?_
        by_cases h_41 : (c.rk : Int) = 0 ∧ (c.rv : Int) = 0
        ·
         refine K.a (K.QR.eqS (by kernel_rfl) rfl rfl rfl (eqRes_t h_41)) ?_
         refine K.q [.bool true, .bool true, .bool false, .bool false, .bool false, .bool false, .bool false, .bool false] (K.z (K.t (K.r (K.u ?_))))
         refine ⟨.inr rfl, rfl, (.bool false), K.res1 rfl rfl, [], ?_, hS.pick [1]⟩
         exact ⟨rfl, .inr ⟨fun hh => by unfold mayH brokenH answeredH looksK at hh; first | omega | simp_all | (simp_all; omega), rfl⟩⟩
        ·
         refine K.a (K.QR.eqS (by kernel_rfl) rfl rfl rfl (eqRes_f h_41)) ?_
         refine K.q [.bool false, .bool false] (K.n_ (K.n_ (K.n_ (K.n_ (K.q [.bool false, .bool false] (K.z (K.t (K.r (K.u ?_)))))))))
         refine ⟨.inr rfl, rfl, (.bool false), K.res1 rfl rfl, [], ?_, hS.pick [1]⟩
         exact ⟨rfl, .inr ⟨fun hh => by unfold mayH brokenH answeredH looksK at hh; first | omega | simp_all | (simp_all; omega), rfl⟩⟩
       ·
        refine K.xe (c.en : Int) ((-1) : Int) h_40 ?_
        refine K.q [.bool false] (K.n_ (K.n_ (K.n_ (K.n_ (K.q [.bool false, .bool false] (K.n_ (K.n_ (K.n_ (K.n_ (K.q [.bool false, .bool false] (K.z (K.t (K.r (K.u ?_))))))))))))))
        refine ⟨.inr rfl, rfl, (.bool false), K.res1 rfl rfl, [], ?_, hS.pick [1]⟩
        exact ⟨rfl, .inr ⟨fun hh => by unfold mayH brokenH answeredH looksK at hh; first | omega | simp_all | (simp_all; omega), rfl⟩⟩
end Go.Proofs.Ytnehocjmgnhhhaa
