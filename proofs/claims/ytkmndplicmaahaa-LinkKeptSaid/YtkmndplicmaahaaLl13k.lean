/- The statement LinkKept. -/
import Derived.Test.YtkmndplicmaahaaFhk
import Derived.Test.YtkmndplicmaahaaKn
namespace Go.Proofs.Ytkmndplicmaahaa
open Go.RowKit
set_option linter.unusedVariables false
attribute [local irreducible] K.KW K.RW K.DW K.OW K.QR K.KC
set_option maxHeartbeats 1000000 in
set_option maxRecDepth 100000 in
theorem l13kept_ok (w0 : World) (c : Cfg) (a : Option Addr) (cap : Nat) (xs : List Int) (hx16 : ∀ i, i < xs.length → 0 ≤ xs.getD i 0 ∧ xs.getD i 0 ≤ 65535) (hm : xs.length ≤ 9223372036854775807) (hx : K.RowE w0 a xs.length 1 (fun i => cU16 (xs.getD i 0))) :
  K.GC Try.prog w0 6 #[.agg #[.int .i64 c.th, .int .i64 c.sl, .int .i64 c.lo, .int .i64 c.bu], .slice a xs.length cap] [] (fun v post => v = .bool true) := by
 refine K.GC.mk (n := 120) Try.func6 rfl rfl [.agg #[.int .i64 c.th, .int .i64 c.sl, .int .i64 c.lo, .int .i64 c.bu], .slice a xs.length cap] rfl rfl ?_
 intro fr w hS
 replace hS : K.Sat w0 [fr] w := hS
 refine K.s (K.g ?_)
 refine K.l (K.OW.gnew 23 [.int .i64 c.th, .int .i64 c.sl, .int .i64 c.lo, .int .i64 c.bu] hS ?_)
 clear hS; intro w r_1 g_2 hg_3 hS
 refine K.q [.bool false] (K.z (K.t (K.s (K.s (K.g ?_)))))
 refine K.a (K.QR.ldN [.int .i64 c.th, .int .i64 c.sl, .int .i64 c.lo, .int .i64 c.bu] rfl rfl (by kernel_rfl) (by kernel_rfl) (K.cells (K.cl ((hS.blk 0 rfl hg_3).cell rfl) (K.cl ((hS.blk 0 rfl hg_3).cell rfl) (K.cl ((hS.blk 0 rfl hg_3).cell rfl) (K.cl ((hS.blk 0 rfl hg_3).cell rfl) K.cl0)))))) ?_
 refine K.l (K.OW.gcall hS [] [0, 1] [.agg #[.int .i64 c.th, .int .i64 c.sl, .int .i64 c.lo, .int .i64 c.bu]] (few09_ok _ c) ?_)
 clear hS; rintro _ _ w ⟨rfl, (⟨rfl, h_4⟩ | ⟨rfl, h_5⟩)⟩ hS
 ·
  replace hS : K.Sat w0 [g_2, fr] w := hS
  have hc_6 := h_4.1
  obtain ⟨hf_7, hf_8, hf_9, hf_10, hf_11⟩ := (show _ from (by have h := h_4; unfold fewC cfgOk at h; exact h))
  refine K.q [.bool false, .bool false, .slice a xs.length cap] ?_
  refine K.a (K.QR.len (P := Try.prog) rfl rfl Try.underlying62) ?_
  by_cases h_12 : (((xs.length : Nat) : Int) : Int) > (300 : Int)
  ·
   refine K.y ((((xs.length : Nat) : Int) : Int) > (300 : Int)) h_12 ?_
   refine K.q [.bool true] (K.z (K.t (K.h (K.s (K.g ?_)))))
   refine K.l (K.OW.gcall hS [] [0, 1] [] (awake13_ok _) ?_)
   clear hS; rintro _ _ w ⟨rfl, rfl⟩ hS
   replace hS : K.Sat w0 [g_2, fr] w := hS
   refine K.q [.bool true] (K.z (K.t (K.r (K.u ?_))))
   refine ⟨.inr rfl, rfl, (.bool true), K.res1 rfl rfl, [], ?_, hS.pick [1]⟩
   exact rfl
  ·
   refine K.x ((((xs.length : Nat) : Int) : Int) > (300 : Int)) h_12 ?_
   refine K.q [.bool false] (K.z (K.t (K.f (K.k (K.t (K.s (K.g ?_)))))))
   refine K.a (K.QR.ldN [.int .i64 c.th, .int .i64 c.sl, .int .i64 c.lo, .int .i64 c.bu] rfl rfl (by kernel_rfl) (by kernel_rfl) (K.cells (K.cl ((hS.blk 0 rfl hg_3).cell rfl) (K.cl ((hS.blk 0 rfl hg_3).cell rfl) (K.cl ((hS.blk 0 rfl hg_3).cell rfl) (K.cl ((hS.blk 0 rfl hg_3).cell rfl) K.cl0)))))) ?_
   refine K.a (K.QR.bd [(0, .agg #[.int .i64 c.th, .int .i64 c.sl, .int .i64 c.lo, .int .i64 c.bu])] [.int .i64 c.th, .int .i64 c.sl, .int .i64 c.lo, .int .i64 c.bu, .slice none 0 0] rfl rfl (by kernel_rfl)) ?_
   refine K.l (K.OW.gcall hS [52] [0, 1] [.agg #[.int .i64 c.th, .int .i64 c.sl, .int .i64 c.lo, .int .i64 c.bu, .slice none 0 0]] (layS_ok _ c _ _ [] (fun j hj => absurd hj (by simp)) (⟨by assumption, by simp⟩) _ (fun _ _ => K.RowE.zero _ _ _ _)) ?_)
   clear hS; rintro _ _ w ⟨b_13, p_14, q_15, r_16, u_17, _, _, gl_18, l_19, m_20, rfl, rfl, hl_21, x_22, y_23, rfl, rfl, hf_24, hp_25⟩ hS
   replace hS : K.Sat w0 [gl_18, l_19, m_20, g_2, fr] w := hS.of (by simp [K.pick, K.nth])
   have hok0 := (MemAt.isok x_22).1
   have hlb := lay_bd (c := c) (by assumption)
   have hI0 := KInv.start (m := c.th.toNat) hok0
   generalize groundM ((lns c).toNat) (c.th.toNat) (2 + c.th + c.sl).toNat [] = M0 at x_22 hI0
   refine K.q [.tuple #[.pointer (some ⟨b_13, 0, none⟩), .pointer (some ⟨p_14, 0, none⟩), .pointer (some ⟨r_16, 0, none⟩), .bool true], .pointer (some ⟨b_13, 0, none⟩), .pointer (some ⟨p_14, 0, none⟩), .pointer (some ⟨r_16, 0, none⟩), .bool true, .pointer (some ⟨b_13, 0, none⟩), .pointer (some ⟨p_14, 0, none⟩), .pointer (some ⟨r_16, 0, none⟩), .bool true] (K.z (K.t (K.s (K.g (K.q [.pointer (some ⟨r_1, 0, none⟩)] ?_)))))
   refine K.a (K.QR.turn (v := .int .i64 c.th) (K.QR.ld1 (v := .int .i64 c.th) rfl rfl (by kernel_rfl) ((hS.blk 3 rfl hg_3).cell rfl)) (congrArg (Value.int .i64) (show (c.th : Int) = (((c.th.toNat : Nat) : Int) : Int) from by omega))) ?_
   refine K.l (K.OW.gmk (P := Try.prog) (m := c.th.toNat) (cc := cRaw) (z := .agg #[.pointer none, .pointer none]) (size := 2) (bytes := 16) ([.pointer none, .pointer none] : List Value) hS ?_ Try.underlying63 (by kernel_rfl) rfl rfl (by unfold maxLen; omega) (by omega))
   clear hS; intro w r_26 l_27 o_28 hS
   refine K.q [.slice (some ⟨r_26, 0, none⟩) c.th.toNat c.th.toNat] (K.z (K.t (K.s (K.s (K.g (K.q [.int .i64 0] (K.z (K.t ?_))))))))
   refine K.KW.block ?_
   have hd_29 : K.Hands handEl 68 2 l_27 ((some ⟨r_26, 0, none⟩)) (List.replicate c.th.toNat (HandK.no)) := K.Hands.init (by have h := o_28; rwa [K.rep_flat] at h) rfl ⟨rfl, rfl⟩
   refine K.KW.loop (fun m_ F_ w_ => ∃ (i : Nat) (hs : List HandK) (M : MemM) (hd1 : K.Cs) (l_M : K.Cs), m_ = xs.length - i ∧ K.Sl F_ [(0, .agg #[.int .i64 c.th, .int .i64 c.sl, .int .i64 c.lo, .int .i64 c.bu]), (1, .slice a xs.length cap), (2, .pointer (some ⟨r_1, 0, none⟩)), (6, .pointer (some ⟨p_14, 0, none⟩)), (8, .bool true), (9, .slice (some ⟨r_26, 0, none⟩) c.th.toNat c.th.toNat), (10, .int .i64 ((i : Nat) : Int)), (120, undef)] ∧ i ≤ xs.length ∧ KInv ((lns c).toNat) (c.th.toNat) (c.th.toNat) i hs M ∧ K.Hands handEl 68 2 hd1 ((some ⟨r_26, 0, none⟩)) hs ∧ MemAt l_M p_14 q_15 ((lns c).toNat) (c.th.toNat) M ∧ K.Sat w0 [hd1, gl_18, l_M, m_20, g_2, fr] w_) ((fun (i : Nat) (hs : List HandK) (M : MemM) => xs.length - i) 0 (List.replicate c.th.toNat HandK.no) M0) ?_ ?_
   ·
    exact ⟨0, (List.replicate c.th.toNat HandK.no), M0, l_27, l_19, rfl, ⟨by rfl, by rfl, by rfl, by rfl, by rfl, by rfl, by rfl, by rfl, trivial⟩, (by omega), (hI0), hd_29, x_22, hS.pick [0, 1, 2, 3, 4, 5]⟩
   ·
    clear hS
    intro m_30 F_31 w hI
    obtain ⟨i, hs, M, hd1, l_M, rfl, sl_32, p_33, hI, x_34, x_35, hS⟩ := hI
    rw [← K.Sl.puts sl_32]; clear sl_32
    refine K.s (K.s (K.g (K.q [.int .i64 ((i : Nat) : Int), .slice a xs.length cap] ?_)))
    refine K.a (K.QR.len (P := Try.prog) rfl rfl Try.underlying62) ?_
    by_cases h_36 : (((i : Nat) : Int) : Int) < (((xs.length : Nat) : Int) : Int)
    ·
     refine K.y ((((i : Nat) : Int) : Int) < (((xs.length : Nat) : Int) : Int)) h_36 ?_
     refine K.z (K.t (K.h (K.k (K.t (K.s ?_)))))
     refine K.KW.block ?_
     refine K.s ?_
     have hx16j := hx16 i (by omega)
     have hhs := hI.len
     have hMg := hI.mem.good
     obtain ⟨b_37, of_38, rfl, _⟩ := hx.at_ (by omega)
     refine K.g (K.q [.slice (some ⟨b_37, of_38, none⟩) xs.length cap, .int .i64 ((i : Nat) : Int)] ?_)
     refine K.a (K.QR.ix (of_38 + i * 1) 1 rfl rfl rfl Try.underlying62 (by kernel_rfl) (by omega) (by first | (simp; done) | omega | (simp; omega))) ?_
     refine K.d (.int .u16 (xs.getD i 0)) ((hx.no hS.chg).ld i (by omega) 0 _ rfl) ?_
     refine K.a (K.QR.quo16 (xs.getD i 0 : Int) (by kernel_rfl) (by omega)) ?_
     refine K.a (K.QR.nice (v := .int .i64 (IntKind.i64.wrap ((xs.getD i 0 : Int) / 16))) (by kernel_rfl) (congrArg (Value.int .i64) (IntWalk.i64_in _ (by omega)))) ?_
     refine K.a (K.QR.remi64 ((xs.getD i 0 : Int) / 16 : Int) 8 (((xs.getD i 0 : Int) / 16 : Int) % 8) (by kernel_rfl) (by omega) (by omega)) ?_
     refine K.a (K.QR.n64 ((20 : Int) + (((xs.getD i 0 : Int) / 16 : Int) % 8 : Int)) ((20 : Int) + (((xs.getD i 0 : Int) / 16 : Int) % 8 : Int)) (by kernel_rfl) (by omega)) ?_
     refine K.q [.int .i64 ((20 : Int) + (((xs.getD i 0 : Int) / 16 : Int) % 8 : Int))] (K.z (K.t (K.s (K.s (K.g (K.q [.slice (some ⟨b_37, of_38, none⟩) xs.length cap, .int .i64 ((i : Nat) : Int)] ?_))))))
     refine K.a (K.QR.ix (of_38 + i * 1) 1 rfl rfl rfl Try.underlying62 (by kernel_rfl) (by omega) (by first | (simp; done) | omega | (simp; omega))) ?_
     refine K.d (.int .u16 (xs.getD i 0)) ((hx.no hS.chg).ld i (by omega) 0 _ rfl) ?_
     refine K.a (K.QR.remany (k := .u16) (xs.getD i 0 : Int) 8 ((xs.getD i 0 : Int) % 8) (by kernel_rfl) (by omega) (by omega)) ?_
     by_cases h_39 : ((xs.getD i 0 : Int) % 8 : Int) = (7 : Int)
     ·
      refine K.ye ((xs.getD i 0 : Int) % 8 : Int) (7 : Int) h_39 ?_
      refine K.z (K.t (K.h (K.g (K.q [.pointer (some ⟨p_14, 0, none⟩)] ?_))))
      refine K.l (K.OW.gcall hS [2] [0, 1, 3, 4, 5] [.pointer (some ⟨p_14, 0, none⟩)] (mDevice_ok _ _ _ _ _ _ _ x_35 ) ?_)
      clear hS; rintro _ _ w ⟨rfl, rfl⟩ hS
      replace hS : K.Sat w0 [l_M, hd1, gl_18, m_20, g_2, fr] w := hS
      refine K.q [.int .i64 ((20 : Int) + (((xs.getD i 0 : Int) / 16 : Int) % 8 : Int))] ?_
      refine K.a (K.QR.quoi64 ((20 : Int) + (((xs.getD i 0 : Int) / 16 : Int) % 8 : Int) : Int) 8 (((20 : Int) + (((xs.getD i 0 : Int) / 16 : Int) % 8 : Int) : Int) / 8) (by kernel_rfl) (by omega) (by omega)) ?_
      refine K.l (K.OW.gcall hS [0] [1, 2, 3, 4, 5] [.pointer (some ⟨q_15, 0, none⟩), .int .i64 (((20 : Int) + (((xs.getD i 0 : Int) / 16 : Int) % 8 : Int) : Int) / 8)] (mdEvict_ok _ _ _ _ _ _ _ x_35 (((20 : Int) + (((xs.getD i 0 : Int) / 16 : Int) % 8 : Int) : Int) / 8) (by omega)) ?_)
      clear hS; rintro _ _ w (⟨rfl, h_40, l_41, rfl, x_42⟩ | ⟨rfl, h_43, rfl⟩) hS
      ·
       replace hS : K.Sat w0 [l_41, hd1, gl_18, m_20, g_2, fr] w := hS
       have hI2 := hI.evict (k := (((20 : Int) + (((xs.getD i 0 : Int) / 16 : Int) % 8 : Int) : Int) / 8).toNat) (by omega) (by omega) (by omega)
       have hkl : ({ M with dev := M.dev.back (((20 : Int) + (((xs.getD i 0 : Int) / 16 : Int) % 8 : Int) : Int) / 8).toNat } : MemM).dev.kept.length = _ := hI2.mem.ok.1
       refine K.z (K.t (K.s (K.g (K.q [.pointer (some ⟨p_14, 0, none⟩)] ?_))))
       refine K.l (K.OW.gcall hS [0] [1, 2, 3, 4, 5] [.pointer (some ⟨p_14, 0, none⟩)] (mDevice_ok _ _ _ _ _ _ _ x_42 ) ?_)
       clear hS; rintro _ _ w ⟨rfl, rfl⟩ hS
       replace hS : K.Sat w0 [l_41, hd1, gl_18, m_20, g_2, fr] w := hS
       refine K.l (K.OW.gcall hS [0] [1, 2, 3, 4, 5] [.pointer (some ⟨q_15, 0, none⟩)] (mdKept_ok _ _ _ _ _ _ _ x_42) ?_)
       clear hS; rintro _ _ w ⟨r_44, cc_45, l_46, rfl, rfl, o_47⟩ hS
       replace hS : K.Sat w0 [l_41, l_46, hd1, gl_18, m_20, g_2, fr] w := hS
       refine K.q [.slice r_44 (({ M with dev := M.dev.back (((20 : Int) + (((xs.getD i 0 : Int) / 16 : Int) % 8 : Int) : Int) / 8).toNat } : MemM).dev.kept.length) cc_45] (K.z (K.t (K.s (K.g (K.q [.int .i64 20] (K.z (K.t ?_)))))))
       refine K.KW.block ?_
       refine K.KW.loop (fun m_ F_ w_ => ∃ (k2 : Nat), m_ = 28 - k2 ∧ K.Sl F_ [(0, .agg #[.int .i64 c.th, .int .i64 c.sl, .int .i64 c.lo, .int .i64 c.bu]), (1, .slice (some ⟨b_37, of_38, none⟩) xs.length cap), (2, .pointer (some ⟨r_1, 0, none⟩)), (6, .pointer (some ⟨p_14, 0, none⟩)), (8, .bool true), (9, .slice (some ⟨r_26, 0, none⟩) c.th.toNat c.th.toNat), (10, .int .i64 ((i : Nat) : Int)), (13, .slice r_44 (({ M with dev := M.dev.back (((20 : Int) + (((xs.getD i 0 : Int) / 16 : Int) % 8 : Int) : Int) / 8).toNat } : MemM).dev.kept.length) cc_45), (14, .int .i64 ((k2 : Nat) : Int)), (120, undef)] ∧ 20 ≤ k2 ∧ k2 ≤ 28 ∧ K.Sat w0 [l_41, l_46, hd1, gl_18, m_20, g_2, fr] w_) ((fun (k2 : Nat) => 28 - k2) 20) ?_ ?_
       ·
        exact ⟨20, rfl, ⟨by rfl, by rfl, by rfl, by rfl, by rfl, by rfl, by rfl, by rfl, by rfl, by rfl, trivial⟩, (by omega), (by omega), hS.pick [0, 1, 2, 3, 4, 5, 6]⟩
       ·
        clear hS
        intro m_48 F_49 w hI
        obtain ⟨k2, rfl, sl_50, p_51, p_52, hS⟩ := hI
        rw [← K.Sl.puts sl_50]; clear sl_50
        refine K.s (K.s (K.g (K.q [.int .i64 ((k2 : Nat) : Int)] ?_)))
        by_cases h_53 : (((k2 : Nat) : Int) : Int) < (28 : Int)
        ·
         refine K.y ((((k2 : Nat) : Int) : Int) < (28 : Int)) h_53 ?_
         refine K.z (K.t (K.h (K.k (K.t (K.s ?_)))))
         refine K.KW.block ?_
         refine K.s ?_
         have hk8 : in8 ((k2 : Nat) : Int) := ⟨by omega, by omega⟩
         have hwk : isW (sn ({ M with dev := M.dev.back (((20 : Int) + (((xs.getD i 0 : Int) / 16 : Int) % 8 : Int) : Int) / 8).toNat } : MemM) ((k2 : Nat) : Int)) := getD_W hI2.mem.good.2.1
         have hpk2 := sn_peek (M := ({ M with dev := M.dev.back (((20 : Int) + (((xs.getD i 0 : Int) / 16 : Int) % 8 : Int) : Int) / 8).toNat } : MemM)) (show 8 ≤ (lns c).toNat by omega) hk8
         have hwk2 : isW (({ M with dev := M.dev.back (((20 : Int) + (((xs.getD i 0 : Int) / 16 : Int) % 8 : Int) : Int) / 8).toNat } : MemM).dev.kept.getD k2 0) := getD_W hI2.mem.good.2.2
         refine K.g (K.q [.pointer (some ⟨p_14, 0, none⟩), .int .i64 ((k2 : Nat) : Int)] ?_)
         refine K.l (K.OW.gcall hS [0] [1, 2, 3, 4, 5, 6] [.pointer (some ⟨p_14, 0, none⟩), .int .i64 ((k2 : Nat) : Int)] (pkS_ok _ _ _ _ _ _ _ x_42 ((k2 : Nat) : Int) (by first | omega | assumption | exact aft_int (by assumption) _ | exact ann_int (by assumption) _ (by first | omega | assumption)) (sn ({ M with dev := M.dev.back (((20 : Int) + (((xs.getD i 0 : Int) / 16 : Int) % 8 : Int) : Int) / 8).toNat } : MemM) ((k2 : Nat) : Int)) (hpk2)) ?_)
         clear hS; rintro _ _ w ⟨rfl, rfl⟩ hS
         replace hS : K.Sat w0 [l_41, l_46, hd1, gl_18, m_20, g_2, fr] w := hS
         refine K.q [.tuple #[.int .u64 (sn ({ M with dev := M.dev.back (((20 : Int) + (((xs.getD i 0 : Int) / 16 : Int) % 8 : Int) : Int) / 8).toNat } : MemM) ((k2 : Nat) : Int)), .bool true], .int .u64 (sn ({ M with dev := M.dev.back (((20 : Int) + (((xs.getD i 0 : Int) / 16 : Int) % 8 : Int) : Int) / 8).toNat } : MemM) ((k2 : Nat) : Int)), .bool true, .int .u64 (sn ({ M with dev := M.dev.back (((20 : Int) + (((xs.getD i 0 : Int) / 16 : Int) % 8 : Int) : Int) / 8).toNat } : MemM) ((k2 : Nat) : Int)), .bool true] (K.z (K.t (K.s (K.g (K.q [.int .i64 ((k2 : Nat) : Int), .slice r_44 (({ M with dev := M.dev.back (((20 : Int) + (((xs.getD i 0 : Int) / 16 : Int) % 8 : Int) : Int) / 8).toNat } : MemM).dev.kept.length) cc_45] ?_)))))
         refine K.a (K.QR.len (P := Try.prog) rfl rfl Try.underlying46) ?_
         refine K.x ((((k2 : Nat) : Int) : Int) ≥ (((({ M with dev := M.dev.back (((20 : Int) + (((xs.getD i 0 : Int) / 16 : Int) % 8 : Int) : Int) / 8).toNat } : MemM).dev.kept.length : Nat) : Int) : Int)) (by omega) ?_
         refine K.q [.bool false, .int .u64 (sn ({ M with dev := M.dev.back (((20 : Int) + (((xs.getD i 0 : Int) / 16 : Int) % 8 : Int) : Int) / 8).toNat } : MemM) ((k2 : Nat) : Int))] ?_
         refine K.l (K.OW.gcall hS [] [0, 1, 2, 3, 4, 5, 6] [.int .u64 (sn ({ M with dev := M.dev.back (((20 : Int) + (((xs.getD i 0 : Int) / 16 : Int) % 8 : Int) : Int) / 8).toNat } : MemM) ((k2 : Nat) : Int))] (rdirty_ok _ (sn ({ M with dev := M.dev.back (((20 : Int) + (((xs.getD i 0 : Int) / 16 : Int) % 8 : Int) : Int) / 8).toNat } : MemM) ((k2 : Nat) : Int)) (by first | assumption | exact isL.w (by assumption) | exact soilI_w _ | (unfold isW; omega))) ?_)
         clear hS; rintro _ _ w ⟨rfl, (⟨rfl, h_54⟩ | ⟨rfl, h_55⟩)⟩ hS
         ·
          replace hS : K.Sat w0 [l_41, l_46, hd1, gl_18, m_20, g_2, fr] w := hS
          refine K.q [.bool false, .bool false] (K.n_ (K.n_ (K.n_ (K.n_ (K.n_ (K.n_ (K.n_ (K.q [.bool false, .bool false] (K.z (K.t (K.f (K.k ?_))))))))))))
          refine K.blk_normal ?_
          refine K.t (K.g (K.q [.int .i64 ((k2 : Nat) : Int)] ?_))
          refine K.a (K.QR.n64 ((((k2 : Nat) : Int) : Int) + (1 : Int)) ((k2 + 1 : Nat) : Int) (by kernel_rfl) (by omega)) ?_
          refine K.q [.int .i64 ((k2 + 1 : Nat) : Int)] (K.z (K.t ?_))
          refine ⟨_, ?_, k2 + 1, rfl, ⟨by rfl, by rfl, by rfl, by rfl, by rfl, by rfl, by rfl, by rfl, by rfl, by rfl, trivial⟩, (by omega), (by omega), hS.pick [0, 1, 2, 3, 4, 5, 6]⟩
          omega
         ·
          replace hS : K.Sat w0 [l_41, l_46, hd1, gl_18, m_20, g_2, fr] w := hS
          refine K.q [.bool true, .bool true, .slice r_44 (({ M with dev := M.dev.back (((20 : Int) + (((xs.getD i 0 : Int) / 16 : Int) % 8 : Int) : Int) / 8).toNat } : MemM).dev.kept.length) cc_45, .int .i64 ((k2 : Nat) : Int)] ?_
          obtain ⟨b_56, rfl⟩ := o_47.some_ (by have := o_47.le; omega)
          refine K.a (K.QR.ix k2 1 rfl rfl rfl Try.underlying46 (by kernel_rfl) (by omega) (by first | (simp; done) | omega | (simp; omega))) ?_
          refine K.d (.int .u64 ((({ M with dev := M.dev.back (((20 : Int) + (((xs.getD i 0 : Int) / 16 : Int) % 8 : Int) : Int) / 8).toNat } : MemM).dev.kept).getD k2 0)) (K.Own.atS (c := cU64) (d := 0) (fun _ => rfl) (hS.ownr 1 rfl o_47) rfl k2 (by omega)) ?_
          refine K.l (K.OW.gcall hS [] [0, 1, 2, 3, 4, 5, 6] [.int .u64 ((({ M with dev := M.dev.back (((20 : Int) + (((xs.getD i 0 : Int) / 16 : Int) % 8 : Int) : Int) / 8).toNat } : MemM).dev.kept).getD k2 0)] (rclean_ok _ ((({ M with dev := M.dev.back (((20 : Int) + (((xs.getD i 0 : Int) / 16 : Int) % 8 : Int) : Int) / 8).toNat } : MemM).dev.kept).getD k2 0) (by first | assumption | exact isL.w (by assumption) | exact soilI_w _ | (unfold isW; omega))) ?_)
          clear hS; rintro _ _ w ⟨rfl, rfl⟩ hS
          replace hS : K.Sat w0 [l_41, l_46, hd1, gl_18, m_20, g_2, fr] w := hS
          have hw_58 : isL (cleanI ((({ M with dev := M.dev.back (((20 : Int) + (((xs.getD i 0 : Int) / 16 : Int) % 8 : Int) : Int) / 8).toNat } : MemM).dev.kept).getD k2 0)) := cleanI_l _
          refine K.q [.int .u64 (sn ({ M with dev := M.dev.back (((20 : Int) + (((xs.getD i 0 : Int) / 16 : Int) % 8 : Int) : Int) / 8).toNat } : MemM) ((k2 : Nat) : Int))] ?_
          refine K.xn ((cleanI ((({ M with dev := M.dev.back (((20 : Int) + (((xs.getD i 0 : Int) / 16 : Int) % 8 : Int) : Int) / 8).toNat } : MemM).dev.kept).getD k2 0)) : Int) ((sn ({ M with dev := M.dev.back (((20 : Int) + (((xs.getD i 0 : Int) / 16 : Int) % 8 : Int) : Int) / 8).toNat } : MemM) ((k2 : Nat) : Int)) : Int) (hI2.mem.clean _ hk8 (by assumption)) ?_
          refine K.q [.bool false, .bool false] (K.z (K.t (K.f (K.k ?_))))
          refine K.blk_normal ?_
          refine K.t (K.g (K.q [.int .i64 ((k2 : Nat) : Int)] ?_))
          refine K.a (K.QR.n64 ((((k2 : Nat) : Int) : Int) + (1 : Int)) ((k2 + 1 : Nat) : Int) (by kernel_rfl) (by omega)) ?_
          refine K.q [.int .i64 ((k2 + 1 : Nat) : Int)] (K.z (K.t ?_))
          refine ⟨_, ?_, k2 + 1, rfl, ⟨by rfl, by rfl, by rfl, by rfl, by rfl, by rfl, by rfl, by rfl, by rfl, by rfl, trivial⟩, (by omega), (by omega), hS.pick [0, 1, 2, 3, 4, 5, 6]⟩
          omega
        ·
         refine K.x ((((k2 : Nat) : Int) : Int) < (28 : Int)) h_53 ?_
         refine K.z (K.t (K.f ?_))
         refine K.KW.exit ?_
         refine K.thn_exit ?_
         refine K.thn_exit ?_
         refine K.blk_hit ?_
         refine K.blk_normal ?_
         refine K.t (K.g (K.q [.int .i64 ((i : Nat) : Int)] ?_))
         refine K.a (K.QR.n64 ((((i : Nat) : Int) : Int) + (1 : Int)) ((i + 1 : Nat) : Int) (by kernel_rfl) (by omega)) ?_
         refine K.q [.int .i64 ((i + 1 : Nat) : Int)] (K.z (K.t ?_))
         refine ⟨_, ?_, i + 1, hs, ({ M with dev := M.dev.back (((20 : Int) + (((xs.getD i 0 : Int) / 16 : Int) % 8 : Int) : Int) / 8).toNat } : MemM), hd1, l_41, rfl, ⟨by rfl, by rfl, by rfl, by rfl, by rfl, by rfl, by rfl, by rfl, trivial⟩, (by omega), (hI2), x_34, x_42, hS.pick [2, 3, 0, 4, 5, 6]⟩
         omega
      ·
       replace hS : K.Sat w0 [l_M, hd1, gl_18, m_20, g_2, fr] w := hS
       have hI2 := hI.skip (by omega)
       have hkl : M.dev.kept.length = _ := hI2.mem.ok.1
       refine K.z (K.t (K.s (K.g (K.q [.pointer (some ⟨p_14, 0, none⟩)] ?_))))
       refine K.l (K.OW.gcall hS [0] [1, 2, 3, 4, 5] [.pointer (some ⟨p_14, 0, none⟩)] (mDevice_ok _ _ _ _ _ _ _ x_35 ) ?_)
       clear hS; rintro _ _ w ⟨rfl, rfl⟩ hS
       replace hS : K.Sat w0 [l_M, hd1, gl_18, m_20, g_2, fr] w := hS
       refine K.l (K.OW.gcall hS [0] [1, 2, 3, 4, 5] [.pointer (some ⟨q_15, 0, none⟩)] (mdKept_ok _ _ _ _ _ _ _ x_35) ?_)
       clear hS; rintro _ _ w ⟨r_59, cc_60, l_61, rfl, rfl, o_62⟩ hS
       replace hS : K.Sat w0 [l_M, l_61, hd1, gl_18, m_20, g_2, fr] w := hS
       refine K.q [.slice r_59 M.dev.kept.length cc_60] (K.z (K.t (K.s (K.g (K.q [.int .i64 20] (K.z (K.t ?_)))))))
       refine K.KW.block ?_
       refine K.KW.loop (fun m_ F_ w_ => ∃ (k2 : Nat), m_ = 28 - k2 ∧ K.Sl F_ [(0, .agg #[.int .i64 c.th, .int .i64 c.sl, .int .i64 c.lo, .int .i64 c.bu]), (1, .slice (some ⟨b_37, of_38, none⟩) xs.length cap), (2, .pointer (some ⟨r_1, 0, none⟩)), (6, .pointer (some ⟨p_14, 0, none⟩)), (8, .bool true), (9, .slice (some ⟨r_26, 0, none⟩) c.th.toNat c.th.toNat), (10, .int .i64 ((i : Nat) : Int)), (13, .slice r_59 M.dev.kept.length cc_60), (14, .int .i64 ((k2 : Nat) : Int)), (120, undef)] ∧ 20 ≤ k2 ∧ k2 ≤ 28 ∧ K.Sat w0 [l_M, l_61, hd1, gl_18, m_20, g_2, fr] w_) ((fun (k2 : Nat) => 28 - k2) 20) ?_ ?_
       ·
        exact ⟨20, rfl, ⟨by rfl, by rfl, by rfl, by rfl, by rfl, by rfl, by rfl, by rfl, by rfl, by rfl, trivial⟩, (by omega), (by omega), hS.pick [0, 1, 2, 3, 4, 5, 6]⟩
       ·
        clear hS
        intro m_63 F_64 w hI
        obtain ⟨k2, rfl, sl_65, p_66, p_67, hS⟩ := hI
        rw [← K.Sl.puts sl_65]; clear sl_65
        refine K.s (K.s (K.g (K.q [.int .i64 ((k2 : Nat) : Int)] ?_)))
        by_cases h_68 : (((k2 : Nat) : Int) : Int) < (28 : Int)
        ·
         refine K.y ((((k2 : Nat) : Int) : Int) < (28 : Int)) h_68 ?_
         refine K.z (K.t (K.h (K.k (K.t (K.s ?_)))))
         refine K.KW.block ?_
         refine K.s ?_
         have hk8 : in8 ((k2 : Nat) : Int) := ⟨by omega, by omega⟩
         have hwk : isW (sn M ((k2 : Nat) : Int)) := getD_W hI2.mem.good.2.1
         have hpk2 := sn_peek (M := M) (show 8 ≤ (lns c).toNat by omega) hk8
         have hwk2 : isW (M.dev.kept.getD k2 0) := getD_W hI2.mem.good.2.2
         refine K.g (K.q [.pointer (some ⟨p_14, 0, none⟩), .int .i64 ((k2 : Nat) : Int)] ?_)
         refine K.l (K.OW.gcall hS [0] [1, 2, 3, 4, 5, 6] [.pointer (some ⟨p_14, 0, none⟩), .int .i64 ((k2 : Nat) : Int)] (pkS_ok _ _ _ _ _ _ _ x_35 ((k2 : Nat) : Int) (by first | omega | assumption | exact aft_int (by assumption) _ | exact ann_int (by assumption) _ (by first | omega | assumption)) (sn M ((k2 : Nat) : Int)) (hpk2)) ?_)
         clear hS; rintro _ _ w ⟨rfl, rfl⟩ hS
         replace hS : K.Sat w0 [l_M, l_61, hd1, gl_18, m_20, g_2, fr] w := hS
         refine K.q [.tuple #[.int .u64 (sn M ((k2 : Nat) : Int)), .bool true], .int .u64 (sn M ((k2 : Nat) : Int)), .bool true, .int .u64 (sn M ((k2 : Nat) : Int)), .bool true] (K.z (K.t (K.s (K.g (K.q [.int .i64 ((k2 : Nat) : Int), .slice r_59 M.dev.kept.length cc_60] ?_)))))
         refine K.a (K.QR.len (P := Try.prog) rfl rfl Try.underlying46) ?_
         refine K.x ((((k2 : Nat) : Int) : Int) ≥ (((M.dev.kept.length : Nat) : Int) : Int)) (by omega) ?_
         refine K.q [.bool false, .int .u64 (sn M ((k2 : Nat) : Int))] ?_
         refine K.l (K.OW.gcall hS [] [0, 1, 2, 3, 4, 5, 6] [.int .u64 (sn M ((k2 : Nat) : Int))] (rdirty_ok _ (sn M ((k2 : Nat) : Int)) (by first | assumption | exact isL.w (by assumption) | exact soilI_w _ | (unfold isW; omega))) ?_)
         clear hS; rintro _ _ w ⟨rfl, (⟨rfl, h_69⟩ | ⟨rfl, h_70⟩)⟩ hS
         ·
          replace hS : K.Sat w0 [l_M, l_61, hd1, gl_18, m_20, g_2, fr] w := hS
          refine K.q [.bool false, .bool false] (K.n_ (K.n_ (K.n_ (K.n_ (K.n_ (K.n_ (K.n_ (K.q [.bool false, .bool false] (K.z (K.t (K.f (K.k ?_))))))))))))
          refine K.blk_normal ?_
          refine K.t (K.g (K.q [.int .i64 ((k2 : Nat) : Int)] ?_))
          refine K.a (K.QR.n64 ((((k2 : Nat) : Int) : Int) + (1 : Int)) ((k2 + 1 : Nat) : Int) (by kernel_rfl) (by omega)) ?_
          refine K.q [.int .i64 ((k2 + 1 : Nat) : Int)] (K.z (K.t ?_))
          refine ⟨_, ?_, k2 + 1, rfl, ⟨by rfl, by rfl, by rfl, by rfl, by rfl, by rfl, by rfl, by rfl, by rfl, by rfl, trivial⟩, (by omega), (by omega), hS.pick [0, 1, 2, 3, 4, 5, 6]⟩
          omega
         ·
          replace hS : K.Sat w0 [l_M, l_61, hd1, gl_18, m_20, g_2, fr] w := hS
          refine K.q [.bool true, .bool true, .slice r_59 M.dev.kept.length cc_60, .int .i64 ((k2 : Nat) : Int)] ?_
          obtain ⟨b_71, rfl⟩ := o_62.some_ (by have := o_62.le; omega)
          refine K.a (K.QR.ix k2 1 rfl rfl rfl Try.underlying46 (by kernel_rfl) (by omega) (by first | (simp; done) | omega | (simp; omega))) ?_
          refine K.d (.int .u64 (M.dev.kept.getD k2 0)) (K.Own.atS (c := cU64) (d := 0) (fun _ => rfl) (hS.ownr 1 rfl o_62) rfl k2 (by omega)) ?_
          refine K.l (K.OW.gcall hS [] [0, 1, 2, 3, 4, 5, 6] [.int .u64 (M.dev.kept.getD k2 0)] (rclean_ok _ (M.dev.kept.getD k2 0) (by first | assumption | exact isL.w (by assumption) | exact soilI_w _ | (unfold isW; omega))) ?_)
          clear hS; rintro _ _ w ⟨rfl, rfl⟩ hS
          replace hS : K.Sat w0 [l_M, l_61, hd1, gl_18, m_20, g_2, fr] w := hS
          have hw_73 : isL (cleanI (M.dev.kept.getD k2 0)) := cleanI_l _
          refine K.q [.int .u64 (sn M ((k2 : Nat) : Int))] ?_
          refine K.xn ((cleanI (M.dev.kept.getD k2 0)) : Int) ((sn M ((k2 : Nat) : Int)) : Int) (hI2.mem.clean _ hk8 (by assumption)) ?_
          refine K.q [.bool false, .bool false] (K.z (K.t (K.f (K.k ?_))))
          refine K.blk_normal ?_
          refine K.t (K.g (K.q [.int .i64 ((k2 : Nat) : Int)] ?_))
          refine K.a (K.QR.n64 ((((k2 : Nat) : Int) : Int) + (1 : Int)) ((k2 + 1 : Nat) : Int) (by kernel_rfl) (by omega)) ?_
          refine K.q [.int .i64 ((k2 + 1 : Nat) : Int)] (K.z (K.t ?_))
          refine ⟨_, ?_, k2 + 1, rfl, ⟨by rfl, by rfl, by rfl, by rfl, by rfl, by rfl, by rfl, by rfl, by rfl, by rfl, trivial⟩, (by omega), (by omega), hS.pick [0, 1, 2, 3, 4, 5, 6]⟩
          omega
        ·
         refine K.x ((((k2 : Nat) : Int) : Int) < (28 : Int)) h_68 ?_
         refine K.z (K.t (K.f ?_))
         refine K.KW.exit ?_
         refine K.thn_exit ?_
         refine K.thn_exit ?_
         refine K.blk_hit ?_
         refine K.blk_normal ?_
         refine K.t (K.g (K.q [.int .i64 ((i : Nat) : Int)] ?_))
         refine K.a (K.QR.n64 ((((i : Nat) : Int) : Int) + (1 : Int)) ((i + 1 : Nat) : Int) (by kernel_rfl) (by omega)) ?_
         refine K.q [.int .i64 ((i + 1 : Nat) : Int)] (K.z (K.t ?_))
         refine ⟨_, ?_, i + 1, hs, M, hd1, l_M, rfl, ⟨by rfl, by rfl, by rfl, by rfl, by rfl, by rfl, by rfl, by rfl, trivial⟩, (by omega), (hI2), x_34, x_35, hS.pick [2, 3, 0, 4, 5, 6]⟩
         omega
     ·
      refine K.xe ((xs.getD i 0 : Int) % 8 : Int) (7 : Int) h_39 ?_
      refine K.z (K.t (K.f (K.s ?_)))
      have hrl : 0 ≤ (((xs.getD i 0 : Int) % 8)) % ((c.th : Int)) ∧ (((xs.getD i 0 : Int) % 8)) % ((c.th : Int)) < (c.th : Int) := ⟨Int.emod_nonneg _ (by omega), Int.emod_lt_of_pos _ (by omega)⟩
      obtain ⟨tk, htk⟩ : ∃ q : Nat, ((((xs.getD i 0 : Int) % 8)) % ((c.th : Int)) : Int) = q := ⟨((((xs.getD i 0 : Int) % 8)) % ((c.th : Int)) : Int).toNat, by omega⟩
      refine K.KW.gdrawn [] hS (by kernel_rfl) ?_
      clear hS; intro w hS
      refine K.p 0 rfl (.slice (some ⟨b_37, of_38, none⟩) xs.length cap) (hS.pick []) ?_
      refine K.p 1 rfl (.int .i64 ((i : Nat) : Int)) (hS.pick []) ?_
      refine K.m 2 rfl (fun w hS => K.QR.ix (of_38 + i * 1) 1 rfl rfl rfl Try.underlying62 (by kernel_rfl) (by omega) (by first | (simp; done) | omega | (simp; omega))) (hS.pick []) ?_
      refine K.o_ 3 rfl (.int .u16 (xs.getD i 0)) (fun w hS => ((hx.no hS.chg).ld i (by omega) 0 _ rfl)) (hS.pick []) ?_
      refine K.m 4 rfl (fun w hS => K.QR.remany (k := .u16) (xs.getD i 0 : Int) 8 ((xs.getD i 0 : Int) % 8) (by kernel_rfl) (by omega) (by omega)) (hS.pick []) ?_
      refine K.m 5 rfl (fun w hS => K.QR.nice (v := .int .i64 (IntKind.i64.wrap ((xs.getD i 0 : Int) % 8))) (by kernel_rfl) (congrArg (Value.int .i64) (IntWalk.i64_in _ (by omega)))) (hS.pick []) ?_
      refine K.b 6 rfl (.pointer (some ⟨r_1, 0, none⟩)) (hS.pick []) ?_
      refine K.c 7 rfl (K.QR.ld1 (v := .int .i64 c.th) rfl rfl (by kernel_rfl) ((hS.blk 4 rfl hg_3).cell rfl)) (hS.pick []) ?_
      refine K.c 8 rfl (K.QR.remV rfl rfl rfl (by omega) (by omega) htk) (hS.pick []) ?_
      refine K.b 9 rfl (.int .i64 ((tk : Nat) : Int)) (hS.pick []) ?_
      refine K.DW.done (by kernel_rfl) ?_
      refine K.t ?_
      obtain ⟨xo, hSo⟩ := K.ex_at (hs := hs) (t := tk) (by omega)
      have hat8 : in8 ((20 : Int) + (((xs.getD i 0 : Int) / 16 : Int) % 8 : Int)) := ⟨by omega, by omega⟩
      have hpk0 := sn_peek (M := M) (show 8 ≤ (lns c).toNat by omega) hat8
      cases xo with
      | no =>
       obtain ⟨row_74, hA_75, hg_76, hB_77, cs_78, rfl, hcs_79, hall_80, htl_81, hct_82, hel_83, how_84, hcl_85⟩ := x_34.open_ tk HandK.no hSo
       replace hS : K.Sat w0 [row_74, hA_75, hg_76, hB_77, gl_18, l_M, m_20, g_2, fr] w := hS.of
       obtain ⟨hce, _⟩ := hel_83
       rw [hce] at how_84
       refine K.KW.gdrawn [] hS (by kernel_rfl) ?_
       clear hS; intro w hS
       refine K.p 0 rfl (.slice (some ⟨r_26, 0, none⟩) c.th.toNat c.th.toNat) (hS.pick []) ?_
       refine K.p 1 rfl (.int .i64 ((tk : Nat) : Int)) (hS.pick []) ?_
       refine K.m 2 rfl (fun w hS => K.QR.ix (0 + tk * 2) 2 rfl rfl rfl Try.underlying63 (by kernel_rfl) (by omega) (by first | (simp; done) | omega | (simp; omega))) (hS.pick []) ?_
       refine K.p 3 rfl (.pointer (some ⟨p_14, 0, none⟩)) (hS.pick []) ?_
       refine K.p 4 rfl (.int .i64 ((tk : Nat) : Int)) (hS.pick []) ?_
       refine K.p 5 rfl (.int .i64 ((20 : Int) + (((xs.getD i 0 : Int) / 16 : Int) % 8 : Int))) (hS.pick []) ?_
       refine K.p 6 rfl (.int .i64 ((i : Nat) : Int)) (hS.pick []) ?_
       refine K.p 7 rfl (.slice (some ⟨b_37, of_38, none⟩) xs.length cap) (hS.pick []) ?_
       refine K.b 8 rfl (.int .i64 ((i : Nat) : Int)) (hS.pick []) ?_
       refine K.c 9 rfl (K.QR.ix (of_38 + i * 1) 1 rfl rfl rfl Try.underlying62 (by kernel_rfl) (by omega) (by first | (simp; done) | omega | (simp; omega))) (hS.pick []) ?_
       refine K.c 10 rfl (K.QR.ld1 (v := .int .u16 (xs.getD i 0)) rfl rfl (by kernel_rfl) ((hx.no hS.chg).ld i (by omega) 0 _ rfl)) (hS.pick []) ?_
       refine K.c 11 rfl (K.QR.remany (k := .u16) (xs.getD i 0 : Int) 16 ((xs.getD i 0 : Int) % 16) (by kernel_rfl) (by omega) (by omega)) (hS.pick []) ?_
       by_cases h_86 : ((xs.getD i 0 : Int) % 16 : Int) ≥ (8 : Int)
       ·
        refine K.c 12 rfl (K.QR.nice (v := .bool (decide (((xs.getD i 0 : Int) % 16 : Int) ≥ (8 : Int)))) (by kernel_rfl) (congrArg Value.bool (decide_eq_true h_86))) (hS.pick []) ?_
        refine K.DW.l 13 rfl (by kernel_rfl) rfl (K.OW.gcall hS [0, 5] [1, 2, 3, 4, 6, 7, 8] [.pointer (some ⟨r_26, 0 + tk * 2, none⟩), .pointer (some ⟨p_14, 0, none⟩), .int .i64 ((tk : Nat) : Int), .int .i64 ((20 : Int) + (((xs.getD i 0 : Int) / 16 : Int) % 8 : Int)), .int .i64 ((i : Nat) : Int), .bool true] (hand_no _ r_26 tk hs.length _ _ _ _ i cs_78 hcs_79 hall_80 htl_81 (by omega) (by omega) ((20 : Int) + (((xs.getD i 0 : Int) / 16 : Int) % 8 : Int)) _ hat8 true M _ _ how_84 x_35 hMg hpk0) ?_)
        clear hS; rintro _ _ w ⟨row_87, g_88, l_89, c_90, rfl, rfl, hc_91, el_92, ow_93, x_94⟩ hS
        replace hS : K.Sat w0 [row_87, g_88, l_89, hA_75, hg_76, hB_77, gl_18, m_20, g_2, fr] w := hS
        have hd_95 : K.Hands handEl 68 2 (row_87 ++ (hA_75 ++ (g_88 ++ hB_77))) ((some ⟨r_26, 0, none⟩)) (hs.set tk (goH ((lns c).toNat) (c.th.toNat) M (nextH ((lns c).toNat) i true ((20 : Int) + (((xs.getD i 0 : Int) / 16 : Int) % 8 : Int)) tk M HandK.no)).1) := hcl_85 _ _ _ _ hc_91 el_92 ow_93
        replace hS : K.Sat w0 [(row_87 ++ (hA_75 ++ (g_88 ++ hB_77))), l_89, hg_76, gl_18, m_20, g_2, fr] w := (hS.pick [0, 3, 1, 5, 2, 4, 6, 7, 8, 9]).of (by simp [K.pick, K.nth])
        generalize (row_87 ++ (hA_75 ++ (g_88 ++ hB_77))) = ld_96 at hS hd_95
        have hI2 := hI.hand hSo (by omega) (by omega) hat8 (by omega) (by omega) true
        obtain ⟨X_97, hX_98⟩ : ∃ X, X = (goH ((lns c).toNat) (c.th.toNat) M (nextH ((lns c).toNat) i true ((20 : Int) + (((xs.getD i 0 : Int) / 16 : Int) % 8 : Int)) tk M HandK.no)) := ⟨_, rfl⟩
        rw [← hX_98] at hd_95 x_94 hI2
        have hkl : X_97.2.dev.kept.length = _ := hI2.mem.ok.1
        refine ⟨.inl (hS.pick []), ?_⟩
        refine K.DW.done (by kernel_rfl) ?_
        refine K.t (K.s (K.g (K.q [.pointer (some ⟨p_14, 0, none⟩)] ?_)))
        refine K.l (K.OW.gcall hS [1] [0, 2, 3, 4, 5, 6] [.pointer (some ⟨p_14, 0, none⟩)] (mDevice_ok _ _ _ _ _ _ _ x_94 ) ?_)
        clear hS; rintro _ _ w ⟨rfl, rfl⟩ hS
        replace hS : K.Sat w0 [l_89, ld_96, hg_76, gl_18, m_20, g_2, fr] w := hS
        refine K.l (K.OW.gcall hS [0] [1, 2, 3, 4, 5, 6] [.pointer (some ⟨q_15, 0, none⟩)] (mdKept_ok _ _ _ _ _ _ _ x_94) ?_)
        clear hS; rintro _ _ w ⟨r_99, cc_100, l_101, rfl, rfl, o_102⟩ hS
        replace hS : K.Sat w0 [l_89, l_101, ld_96, hg_76, gl_18, m_20, g_2, fr] w := hS
        refine K.q [.slice r_99 X_97.2.dev.kept.length cc_100] (K.z (K.t (K.s (K.g (K.q [.int .i64 20] (K.z (K.t ?_)))))))
        refine K.KW.block ?_
        refine K.KW.loop (fun m_ F_ w_ => ∃ (k2 : Nat), m_ = 28 - k2 ∧ K.Sl F_ [(0, .agg #[.int .i64 c.th, .int .i64 c.sl, .int .i64 c.lo, .int .i64 c.bu]), (1, .slice (some ⟨b_37, of_38, none⟩) xs.length cap), (2, .pointer (some ⟨r_1, 0, none⟩)), (6, .pointer (some ⟨p_14, 0, none⟩)), (8, .bool true), (9, .slice (some ⟨r_26, 0, none⟩) c.th.toNat c.th.toNat), (10, .int .i64 ((i : Nat) : Int)), (13, .slice r_99 X_97.2.dev.kept.length cc_100), (14, .int .i64 ((k2 : Nat) : Int)), (120, undef)] ∧ 20 ≤ k2 ∧ k2 ≤ 28 ∧ K.Sat w0 [l_89, l_101, ld_96, hg_76, gl_18, m_20, g_2, fr] w_) ((fun (k2 : Nat) => 28 - k2) 20) ?_ ?_
        ·
         exact ⟨20, rfl, ⟨by rfl, by rfl, by rfl, by rfl, by rfl, by rfl, by rfl, by rfl, by rfl, by rfl, trivial⟩, (by omega), (by omega), hS.pick [0, 1, 2, 3, 4, 5, 6, 7]⟩
        ·
         clear hS
         intro m_103 F_104 w hI
         obtain ⟨k2, rfl, sl_105, p_106, p_107, hS⟩ := hI
         rw [← K.Sl.puts sl_105]; clear sl_105
         refine K.s (K.s (K.g (K.q [.int .i64 ((k2 : Nat) : Int)] ?_)))
         by_cases h_108 : (((k2 : Nat) : Int) : Int) < (28 : Int)
         ·
          refine K.y ((((k2 : Nat) : Int) : Int) < (28 : Int)) h_108 ?_
          refine K.z (K.t (K.h (K.k (K.t (K.s ?_)))))
          refine K.KW.block ?_
          refine K.s ?_
          have hk8 : in8 ((k2 : Nat) : Int) := ⟨by omega, by omega⟩
          have hwk : isW (sn X_97.2 ((k2 : Nat) : Int)) := getD_W hI2.mem.good.2.1
          have hpk2 := sn_peek (M := X_97.2) (show 8 ≤ (lns c).toNat by omega) hk8
          have hwk2 : isW (X_97.2.dev.kept.getD k2 0) := getD_W hI2.mem.good.2.2
          refine K.g (K.q [.pointer (some ⟨p_14, 0, none⟩), .int .i64 ((k2 : Nat) : Int)] ?_)
          refine K.l (K.OW.gcall hS [0] [1, 2, 3, 4, 5, 6, 7] [.pointer (some ⟨p_14, 0, none⟩), .int .i64 ((k2 : Nat) : Int)] (pkS_ok _ _ _ _ _ _ _ x_94 ((k2 : Nat) : Int) (by first | omega | assumption | exact aft_int (by assumption) _ | exact ann_int (by assumption) _ (by first | omega | assumption)) (sn X_97.2 ((k2 : Nat) : Int)) (hpk2)) ?_)
          clear hS; rintro _ _ w ⟨rfl, rfl⟩ hS
          replace hS : K.Sat w0 [l_89, l_101, ld_96, hg_76, gl_18, m_20, g_2, fr] w := hS
          refine K.q [.tuple #[.int .u64 (sn X_97.2 ((k2 : Nat) : Int)), .bool true], .int .u64 (sn X_97.2 ((k2 : Nat) : Int)), .bool true, .int .u64 (sn X_97.2 ((k2 : Nat) : Int)), .bool true] (K.z (K.t (K.s (K.g (K.q [.int .i64 ((k2 : Nat) : Int), .slice r_99 X_97.2.dev.kept.length cc_100] ?_)))))
          refine K.a (K.QR.len (P := Try.prog) rfl rfl Try.underlying46) ?_
          refine K.x ((((k2 : Nat) : Int) : Int) ≥ (((X_97.2.dev.kept.length : Nat) : Int) : Int)) (by omega) ?_
          refine K.q [.bool false, .int .u64 (sn X_97.2 ((k2 : Nat) : Int))] ?_
          refine K.l (K.OW.gcall hS [] [0, 1, 2, 3, 4, 5, 6, 7] [.int .u64 (sn X_97.2 ((k2 : Nat) : Int))] (rdirty_ok _ (sn X_97.2 ((k2 : Nat) : Int)) (by first | assumption | exact isL.w (by assumption) | exact soilI_w _ | (unfold isW; omega))) ?_)
          clear hS; rintro _ _ w ⟨rfl, (⟨rfl, h_109⟩ | ⟨rfl, h_110⟩)⟩ hS
          ·
           replace hS : K.Sat w0 [l_89, l_101, ld_96, hg_76, gl_18, m_20, g_2, fr] w := hS
           refine K.q [.bool false, .bool false] (K.n_ (K.n_ (K.n_ (K.n_ (K.n_ (K.n_ (K.n_ (K.q [.bool false, .bool false] (K.z (K.t (K.f (K.k ?_))))))))))))
           refine K.blk_normal ?_
           refine K.t (K.g (K.q [.int .i64 ((k2 : Nat) : Int)] ?_))
           refine K.a (K.QR.n64 ((((k2 : Nat) : Int) : Int) + (1 : Int)) ((k2 + 1 : Nat) : Int) (by kernel_rfl) (by omega)) ?_
           refine K.q [.int .i64 ((k2 + 1 : Nat) : Int)] (K.z (K.t ?_))
           refine ⟨_, ?_, k2 + 1, rfl, ⟨by rfl, by rfl, by rfl, by rfl, by rfl, by rfl, by rfl, by rfl, by rfl, by rfl, trivial⟩, (by omega), (by omega), hS.pick [0, 1, 2, 3, 4, 5, 6, 7]⟩
           omega
          ·
           replace hS : K.Sat w0 [l_89, l_101, ld_96, hg_76, gl_18, m_20, g_2, fr] w := hS
           refine K.q [.bool true, .bool true, .slice r_99 X_97.2.dev.kept.length cc_100, .int .i64 ((k2 : Nat) : Int)] ?_
           obtain ⟨b_111, rfl⟩ := o_102.some_ (by have := o_102.le; omega)
           refine K.a (K.QR.ix k2 1 rfl rfl rfl Try.underlying46 (by kernel_rfl) (by omega) (by first | (simp; done) | omega | (simp; omega))) ?_
           refine K.d (.int .u64 (X_97.2.dev.kept.getD k2 0)) (K.Own.atS (c := cU64) (d := 0) (fun _ => rfl) (hS.ownr 1 rfl o_102) rfl k2 (by omega)) ?_
           refine K.l (K.OW.gcall hS [] [0, 1, 2, 3, 4, 5, 6, 7] [.int .u64 (X_97.2.dev.kept.getD k2 0)] (rclean_ok _ (X_97.2.dev.kept.getD k2 0) (by first | assumption | exact isL.w (by assumption) | exact soilI_w _ | (unfold isW; omega))) ?_)
           clear hS; rintro _ _ w ⟨rfl, rfl⟩ hS
           replace hS : K.Sat w0 [l_89, l_101, ld_96, hg_76, gl_18, m_20, g_2, fr] w := hS
           have hw_113 : isL (cleanI (X_97.2.dev.kept.getD k2 0)) := cleanI_l _
           refine K.q [.int .u64 (sn X_97.2 ((k2 : Nat) : Int))] ?_
           refine K.xn ((cleanI (X_97.2.dev.kept.getD k2 0)) : Int) ((sn X_97.2 ((k2 : Nat) : Int)) : Int) (hI2.mem.clean _ hk8 (by assumption)) ?_
           refine K.q [.bool false, .bool false] (K.z (K.t (K.f (K.k ?_))))
           refine K.blk_normal ?_
           refine K.t (K.g (K.q [.int .i64 ((k2 : Nat) : Int)] ?_))
           refine K.a (K.QR.n64 ((((k2 : Nat) : Int) : Int) + (1 : Int)) ((k2 + 1 : Nat) : Int) (by kernel_rfl) (by omega)) ?_
           refine K.q [.int .i64 ((k2 + 1 : Nat) : Int)] (K.z (K.t ?_))
           refine ⟨_, ?_, k2 + 1, rfl, ⟨by rfl, by rfl, by rfl, by rfl, by rfl, by rfl, by rfl, by rfl, by rfl, by rfl, trivial⟩, (by omega), (by omega), hS.pick [0, 1, 2, 3, 4, 5, 6, 7]⟩
           omega
         ·
          refine K.x ((((k2 : Nat) : Int) : Int) < (28 : Int)) h_108 ?_
          refine K.z (K.t (K.f ?_))
          refine K.KW.exit ?_
          refine K.thn_exit ?_
          refine K.thn_exit ?_
          refine K.blk_hit ?_
          refine K.blk_normal ?_
          refine K.t (K.g (K.q [.int .i64 ((i : Nat) : Int)] ?_))
          refine K.a (K.QR.n64 ((((i : Nat) : Int) : Int) + (1 : Int)) ((i + 1 : Nat) : Int) (by kernel_rfl) (by omega)) ?_
          refine K.q [.int .i64 ((i + 1 : Nat) : Int)] (K.z (K.t ?_))
          refine ⟨_, ?_, i + 1, (hs.set tk X_97.1), X_97.2, ld_96, l_89, rfl, ⟨by rfl, by rfl, by rfl, by rfl, by rfl, by rfl, by rfl, by rfl, trivial⟩, (by omega), (hI2), hd_95, x_94, hS.pick [2, 4, 0, 5, 6, 7]⟩
          omega
       ·
        refine K.c 12 rfl (K.QR.nice (v := .bool (decide (((xs.getD i 0 : Int) % 16 : Int) ≥ (8 : Int)))) (by kernel_rfl) (congrArg Value.bool (decide_eq_false h_86))) (hS.pick []) ?_
        refine K.DW.l 13 rfl (by kernel_rfl) rfl (K.OW.gcall hS [0, 5] [1, 2, 3, 4, 6, 7, 8] [.pointer (some ⟨r_26, 0 + tk * 2, none⟩), .pointer (some ⟨p_14, 0, none⟩), .int .i64 ((tk : Nat) : Int), .int .i64 ((20 : Int) + (((xs.getD i 0 : Int) / 16 : Int) % 8 : Int)), .int .i64 ((i : Nat) : Int), .bool false] (hand_no _ r_26 tk hs.length _ _ _ _ i cs_78 hcs_79 hall_80 htl_81 (by omega) (by omega) ((20 : Int) + (((xs.getD i 0 : Int) / 16 : Int) % 8 : Int)) _ hat8 false M _ _ how_84 x_35 hMg hpk0) ?_)
        clear hS; rintro _ _ w ⟨row_114, g_115, l_116, c_117, rfl, rfl, hc_118, el_119, ow_120, x_121⟩ hS
        replace hS : K.Sat w0 [row_114, g_115, l_116, hA_75, hg_76, hB_77, gl_18, m_20, g_2, fr] w := hS
        have hd_122 : K.Hands handEl 68 2 (row_114 ++ (hA_75 ++ (g_115 ++ hB_77))) ((some ⟨r_26, 0, none⟩)) (hs.set tk (goH ((lns c).toNat) (c.th.toNat) M (nextH ((lns c).toNat) i false ((20 : Int) + (((xs.getD i 0 : Int) / 16 : Int) % 8 : Int)) tk M HandK.no)).1) := hcl_85 _ _ _ _ hc_118 el_119 ow_120
        replace hS : K.Sat w0 [(row_114 ++ (hA_75 ++ (g_115 ++ hB_77))), l_116, hg_76, gl_18, m_20, g_2, fr] w := (hS.pick [0, 3, 1, 5, 2, 4, 6, 7, 8, 9]).of (by simp [K.pick, K.nth])
        generalize (row_114 ++ (hA_75 ++ (g_115 ++ hB_77))) = ld_123 at hS hd_122
        have hI2 := hI.hand hSo (by omega) (by omega) hat8 (by omega) (by omega) false
        obtain ⟨X_124, hX_125⟩ : ∃ X, X = (goH ((lns c).toNat) (c.th.toNat) M (nextH ((lns c).toNat) i false ((20 : Int) + (((xs.getD i 0 : Int) / 16 : Int) % 8 : Int)) tk M HandK.no)) := ⟨_, rfl⟩
        rw [← hX_125] at hd_122 x_121 hI2
        have hkl : X_124.2.dev.kept.length = _ := hI2.mem.ok.1
        refine ⟨.inl (hS.pick []), ?_⟩
        refine K.DW.done (by kernel_rfl) ?_
        refine K.t (K.s (K.g (K.q [.pointer (some ⟨p_14, 0, none⟩)] ?_)))
        refine K.l (K.OW.gcall hS [1] [0, 2, 3, 4, 5, 6] [.pointer (some ⟨p_14, 0, none⟩)] (mDevice_ok _ _ _ _ _ _ _ x_121 ) ?_)
        clear hS; rintro _ _ w ⟨rfl, rfl⟩ hS
        replace hS : K.Sat w0 [l_116, ld_123, hg_76, gl_18, m_20, g_2, fr] w := hS
        refine K.l (K.OW.gcall hS [0] [1, 2, 3, 4, 5, 6] [.pointer (some ⟨q_15, 0, none⟩)] (mdKept_ok _ _ _ _ _ _ _ x_121) ?_)
        clear hS; rintro _ _ w ⟨r_126, cc_127, l_128, rfl, rfl, o_129⟩ hS
        replace hS : K.Sat w0 [l_116, l_128, ld_123, hg_76, gl_18, m_20, g_2, fr] w := hS
        refine K.q [.slice r_126 X_124.2.dev.kept.length cc_127] (K.z (K.t (K.s (K.g (K.q [.int .i64 20] (K.z (K.t ?_)))))))
        refine K.KW.block ?_
        refine K.KW.loop (fun m_ F_ w_ => ∃ (k2 : Nat), m_ = 28 - k2 ∧ K.Sl F_ [(0, .agg #[.int .i64 c.th, .int .i64 c.sl, .int .i64 c.lo, .int .i64 c.bu]), (1, .slice (some ⟨b_37, of_38, none⟩) xs.length cap), (2, .pointer (some ⟨r_1, 0, none⟩)), (6, .pointer (some ⟨p_14, 0, none⟩)), (8, .bool true), (9, .slice (some ⟨r_26, 0, none⟩) c.th.toNat c.th.toNat), (10, .int .i64 ((i : Nat) : Int)), (13, .slice r_126 X_124.2.dev.kept.length cc_127), (14, .int .i64 ((k2 : Nat) : Int)), (120, undef)] ∧ 20 ≤ k2 ∧ k2 ≤ 28 ∧ K.Sat w0 [l_116, l_128, ld_123, hg_76, gl_18, m_20, g_2, fr] w_) ((fun (k2 : Nat) => 28 - k2) 20) ?_ ?_
        ·
         exact ⟨20, rfl, ⟨by rfl, by rfl, by rfl, by rfl, by rfl, by rfl, by rfl, by rfl, by rfl, by rfl, trivial⟩, (by omega), (by omega), hS.pick [0, 1, 2, 3, 4, 5, 6, 7]⟩
        ·
         clear hS
         intro m_130 F_131 w hI
         obtain ⟨k2, rfl, sl_132, p_133, p_134, hS⟩ := hI
         rw [← K.Sl.puts sl_132]; clear sl_132
         refine K.s (K.s (K.g (K.q [.int .i64 ((k2 : Nat) : Int)] ?_)))
         by_cases h_135 : (((k2 : Nat) : Int) : Int) < (28 : Int)
         ·
          refine K.y ((((k2 : Nat) : Int) : Int) < (28 : Int)) h_135 ?_
          refine K.z (K.t (K.h (K.k (K.t (K.s ?_)))))
          refine K.KW.block ?_
          refine K.s ?_
          have hk8 : in8 ((k2 : Nat) : Int) := ⟨by omega, by omega⟩
          have hwk : isW (sn X_124.2 ((k2 : Nat) : Int)) := getD_W hI2.mem.good.2.1
          have hpk2 := sn_peek (M := X_124.2) (show 8 ≤ (lns c).toNat by omega) hk8
          have hwk2 : isW (X_124.2.dev.kept.getD k2 0) := getD_W hI2.mem.good.2.2
          refine K.g (K.q [.pointer (some ⟨p_14, 0, none⟩), .int .i64 ((k2 : Nat) : Int)] ?_)
          refine K.l (K.OW.gcall hS [0] [1, 2, 3, 4, 5, 6, 7] [.pointer (some ⟨p_14, 0, none⟩), .int .i64 ((k2 : Nat) : Int)] (pkS_ok _ _ _ _ _ _ _ x_121 ((k2 : Nat) : Int) (by first | omega | assumption | exact aft_int (by assumption) _ | exact ann_int (by assumption) _ (by first | omega | assumption)) (sn X_124.2 ((k2 : Nat) : Int)) (hpk2)) ?_)
          clear hS; rintro _ _ w ⟨rfl, rfl⟩ hS
          replace hS : K.Sat w0 [l_116, l_128, ld_123, hg_76, gl_18, m_20, g_2, fr] w := hS
          refine K.q [.tuple #[.int .u64 (sn X_124.2 ((k2 : Nat) : Int)), .bool true], .int .u64 (sn X_124.2 ((k2 : Nat) : Int)), .bool true, .int .u64 (sn X_124.2 ((k2 : Nat) : Int)), .bool true] (K.z (K.t (K.s (K.g (K.q [.int .i64 ((k2 : Nat) : Int), .slice r_126 X_124.2.dev.kept.length cc_127] ?_)))))
          refine K.a (K.QR.len (P := Try.prog) rfl rfl Try.underlying46) ?_
          refine K.x ((((k2 : Nat) : Int) : Int) ≥ (((X_124.2.dev.kept.length : Nat) : Int) : Int)) (by omega) ?_
          refine K.q [.bool false, .int .u64 (sn X_124.2 ((k2 : Nat) : Int))] ?_
          refine K.l (K.OW.gcall hS [] [0, 1, 2, 3, 4, 5, 6, 7] [.int .u64 (sn X_124.2 ((k2 : Nat) : Int))] (rdirty_ok _ (sn X_124.2 ((k2 : Nat) : Int)) (by first | assumption | exact isL.w (by assumption) | exact soilI_w _ | (unfold isW; omega))) ?_)
          clear hS; rintro _ _ w ⟨rfl, (⟨rfl, h_136⟩ | ⟨rfl, h_137⟩)⟩ hS
          ·
           replace hS : K.Sat w0 [l_116, l_128, ld_123, hg_76, gl_18, m_20, g_2, fr] w := hS
           refine K.q [.bool false, .bool false] (K.n_ (K.n_ (K.n_ (K.n_ (K.n_ (K.n_ (K.n_ (K.q [.bool false, .bool false] (K.z (K.t (K.f (K.k ?_))))))))))))
           refine K.blk_normal ?_
           refine K.t (K.g (K.q [.int .i64 ((k2 : Nat) : Int)] ?_))
           refine K.a (K.QR.n64 ((((k2 : Nat) : Int) : Int) + (1 : Int)) ((k2 + 1 : Nat) : Int) (by kernel_rfl) (by omega)) ?_
           refine K.q [.int .i64 ((k2 + 1 : Nat) : Int)] (K.z (K.t ?_))
           refine ⟨_, ?_, k2 + 1, rfl, ⟨by rfl, by rfl, by rfl, by rfl, by rfl, by rfl, by rfl, by rfl, by rfl, by rfl, trivial⟩, (by omega), (by omega), hS.pick [0, 1, 2, 3, 4, 5, 6, 7]⟩
           omega
          ·
           replace hS : K.Sat w0 [l_116, l_128, ld_123, hg_76, gl_18, m_20, g_2, fr] w := hS
           refine K.q [.bool true, .bool true, .slice r_126 X_124.2.dev.kept.length cc_127, .int .i64 ((k2 : Nat) : Int)] ?_
           obtain ⟨b_138, rfl⟩ := o_129.some_ (by have := o_129.le; omega)
           refine K.a (K.QR.ix k2 1 rfl rfl rfl Try.underlying46 (by kernel_rfl) (by omega) (by first | (simp; done) | omega | (simp; omega))) ?_
           refine K.d (.int .u64 (X_124.2.dev.kept.getD k2 0)) (K.Own.atS (c := cU64) (d := 0) (fun _ => rfl) (hS.ownr 1 rfl o_129) rfl k2 (by omega)) ?_
           refine K.l (K.OW.gcall hS [] [0, 1, 2, 3, 4, 5, 6, 7] [.int .u64 (X_124.2.dev.kept.getD k2 0)] (rclean_ok _ (X_124.2.dev.kept.getD k2 0) (by first | assumption | exact isL.w (by assumption) | exact soilI_w _ | (unfold isW; omega))) ?_)
           clear hS; rintro _ _ w ⟨rfl, rfl⟩ hS
           replace hS : K.Sat w0 [l_116, l_128, ld_123, hg_76, gl_18, m_20, g_2, fr] w := hS
           have hw_140 : isL (cleanI (X_124.2.dev.kept.getD k2 0)) := cleanI_l _
           refine K.q [.int .u64 (sn X_124.2 ((k2 : Nat) : Int))] ?_
           refine K.xn ((cleanI (X_124.2.dev.kept.getD k2 0)) : Int) ((sn X_124.2 ((k2 : Nat) : Int)) : Int) (hI2.mem.clean _ hk8 (by assumption)) ?_
           refine K.q [.bool false, .bool false] (K.z (K.t (K.f (K.k ?_))))
           refine K.blk_normal ?_
           refine K.t (K.g (K.q [.int .i64 ((k2 : Nat) : Int)] ?_))
           refine K.a (K.QR.n64 ((((k2 : Nat) : Int) : Int) + (1 : Int)) ((k2 + 1 : Nat) : Int) (by kernel_rfl) (by omega)) ?_
           refine K.q [.int .i64 ((k2 + 1 : Nat) : Int)] (K.z (K.t ?_))
           refine ⟨_, ?_, k2 + 1, rfl, ⟨by rfl, by rfl, by rfl, by rfl, by rfl, by rfl, by rfl, by rfl, by rfl, by rfl, trivial⟩, (by omega), (by omega), hS.pick [0, 1, 2, 3, 4, 5, 6, 7]⟩
           omega
         ·
          refine K.x ((((k2 : Nat) : Int) : Int) < (28 : Int)) h_135 ?_
          refine K.z (K.t (K.f ?_))
          refine K.KW.exit ?_
          refine K.thn_exit ?_
          refine K.thn_exit ?_
          refine K.blk_hit ?_
          refine K.blk_normal ?_
          refine K.t (K.g (K.q [.int .i64 ((i : Nat) : Int)] ?_))
          refine K.a (K.QR.n64 ((((i : Nat) : Int) : Int) + (1 : Int)) ((i + 1 : Nat) : Int) (by kernel_rfl) (by omega)) ?_
          refine K.q [.int .i64 ((i + 1 : Nat) : Int)] (K.z (K.t ?_))
          refine ⟨_, ?_, i + 1, (hs.set tk X_124.1), X_124.2, ld_123, l_116, rfl, ⟨by rfl, by rfl, by rfl, by rfl, by rfl, by rfl, by rfl, by rfl, trivial⟩, (by omega), (hI2), hd_122, x_121, hS.pick [2, 4, 0, 5, 6, 7]⟩
          omega
      | rd S =>
       obtain ⟨row_141, hA_142, hg_143, hB_144, cs_145, rfl, hcs_146, hall_147, htl_148, hct_149, hel_150, how_151, hcl_152⟩ := x_34.open_ tk (HandK.rd S) hSo
       replace hS : K.Sat w0 [row_141, hA_142, hg_143, hB_144, gl_18, l_M, m_20, g_2, fr] w := hS.of
       obtain ⟨pS, hce, hge⟩ := hel_150
       have hSg : S.good := (hI.each tk _ hSo).1
       rw [hce] at how_151
       replace hS : K.Sat w0 [row_141, hA_142, hg_143, hB_144, gl_18, l_M, m_20, g_2, fr] w := hS.of (by simp [K.pick, K.nth])
       refine K.KW.gdrawn [] hS (by kernel_rfl) ?_
       clear hS; intro w hS
       refine K.p 0 rfl (.slice (some ⟨r_26, 0, none⟩) c.th.toNat c.th.toNat) (hS.pick []) ?_
       refine K.p 1 rfl (.int .i64 ((tk : Nat) : Int)) (hS.pick []) ?_
       refine K.m 2 rfl (fun w hS => K.QR.ix (0 + tk * 2) 2 rfl rfl rfl Try.underlying63 (by kernel_rfl) (by omega) (by first | (simp; done) | omega | (simp; omega))) (hS.pick []) ?_
       refine K.p 3 rfl (.pointer (some ⟨p_14, 0, none⟩)) (hS.pick []) ?_
       refine K.p 4 rfl (.int .i64 ((tk : Nat) : Int)) (hS.pick []) ?_
       refine K.p 5 rfl (.int .i64 ((20 : Int) + (((xs.getD i 0 : Int) / 16 : Int) % 8 : Int))) (hS.pick []) ?_
       refine K.p 6 rfl (.int .i64 ((i : Nat) : Int)) (hS.pick []) ?_
       refine K.p 7 rfl (.slice (some ⟨b_37, of_38, none⟩) xs.length cap) (hS.pick []) ?_
       refine K.b 8 rfl (.int .i64 ((i : Nat) : Int)) (hS.pick []) ?_
       refine K.c 9 rfl (K.QR.ix (of_38 + i * 1) 1 rfl rfl rfl Try.underlying62 (by kernel_rfl) (by omega) (by first | (simp; done) | omega | (simp; omega))) (hS.pick []) ?_
       refine K.c 10 rfl (K.QR.ld1 (v := .int .u16 (xs.getD i 0)) rfl rfl (by kernel_rfl) ((hx.no hS.chg).ld i (by omega) 0 _ rfl)) (hS.pick []) ?_
       refine K.c 11 rfl (K.QR.remany (k := .u16) (xs.getD i 0 : Int) 16 ((xs.getD i 0 : Int) % 16) (by kernel_rfl) (by omega) (by omega)) (hS.pick []) ?_
       by_cases h_153 : ((xs.getD i 0 : Int) % 16 : Int) ≥ (8 : Int)
       ·
        refine K.c 12 rfl (K.QR.nice (v := .bool (decide (((xs.getD i 0 : Int) % 16 : Int) ≥ (8 : Int)))) (by kernel_rfl) (congrArg Value.bool (decide_eq_true h_153))) (hS.pick []) ?_
        refine K.DW.l 13 rfl (by kernel_rfl) rfl (K.OW.gcall hS [0, 2, 5] [1, 3, 4, 6, 7, 8] [.pointer (some ⟨r_26, 0 + tk * 2, none⟩), .pointer (some ⟨p_14, 0, none⟩), .int .i64 ((tk : Nat) : Int), .int .i64 ((20 : Int) + (((xs.getD i 0 : Int) / 16 : Int) % 8 : Int)), .int .i64 ((i : Nat) : Int), .bool true] (hand_rd _ pS S r_26 tk hs.length _ _ _ _ i cs_145 hcs_146 hall_147 htl_148 (by omega) (by omega) ((20 : Int) + (((xs.getD i 0 : Int) / 16 : Int) % 8 : Int)) _ hat8 true M _ _ how_151 x_35 hMg hpk0 _ hge hSg) ?_)
        clear hS; rintro _ _ w ⟨row_154, g_155, l_156, c_157, rfl, rfl, hc_158, el_159, ow_160, x_161⟩ hS
        replace hS : K.Sat w0 [row_154, g_155, l_156, hA_142, hB_144, gl_18, m_20, g_2, fr] w := hS
        have hd_162 : K.Hands handEl 68 2 (row_154 ++ (hA_142 ++ (g_155 ++ hB_144))) ((some ⟨r_26, 0, none⟩)) (hs.set tk (goH ((lns c).toNat) (c.th.toNat) M (nextH ((lns c).toNat) i true ((20 : Int) + (((xs.getD i 0 : Int) / 16 : Int) % 8 : Int)) tk M (HandK.rd S))).1) := hcl_152 _ _ _ _ hc_158 el_159 ow_160
        replace hS : K.Sat w0 [(row_154 ++ (hA_142 ++ (g_155 ++ hB_144))), l_156, gl_18, m_20, g_2, fr] w := (hS.pick [0, 3, 1, 4, 2, 5, 6, 7, 8]).of (by simp [K.pick, K.nth])
        generalize (row_154 ++ (hA_142 ++ (g_155 ++ hB_144))) = ld_163 at hS hd_162
        have hI2 := hI.hand hSo (by omega) (by omega) hat8 (by omega) (by omega) true
        obtain ⟨X_164, hX_165⟩ : ∃ X, X = (goH ((lns c).toNat) (c.th.toNat) M (nextH ((lns c).toNat) i true ((20 : Int) + (((xs.getD i 0 : Int) / 16 : Int) % 8 : Int)) tk M (HandK.rd S))) := ⟨_, rfl⟩
        rw [← hX_165] at hd_162 x_161 hI2
        have hkl : X_164.2.dev.kept.length = _ := hI2.mem.ok.1
        refine ⟨.inl (hS.pick []), ?_⟩
        refine K.DW.done (by kernel_rfl) ?_
        refine K.t (K.s (K.g (K.q [.pointer (some ⟨p_14, 0, none⟩)] ?_)))
        refine K.l (K.OW.gcall hS [1] [0, 2, 3, 4, 5] [.pointer (some ⟨p_14, 0, none⟩)] (mDevice_ok _ _ _ _ _ _ _ x_161 ) ?_)
        clear hS; rintro _ _ w ⟨rfl, rfl⟩ hS
        replace hS : K.Sat w0 [l_156, ld_163, gl_18, m_20, g_2, fr] w := hS
        refine K.l (K.OW.gcall hS [0] [1, 2, 3, 4, 5] [.pointer (some ⟨q_15, 0, none⟩)] (mdKept_ok _ _ _ _ _ _ _ x_161) ?_)
        clear hS; rintro _ _ w ⟨r_166, cc_167, l_168, rfl, rfl, o_169⟩ hS
        replace hS : K.Sat w0 [l_156, l_168, ld_163, gl_18, m_20, g_2, fr] w := hS
        refine K.q [.slice r_166 X_164.2.dev.kept.length cc_167] (K.z (K.t (K.s (K.g (K.q [.int .i64 20] (K.z (K.t ?_)))))))
        refine K.KW.block ?_
        refine K.KW.loop (fun m_ F_ w_ => ∃ (k2 : Nat), m_ = 28 - k2 ∧ K.Sl F_ [(0, .agg #[.int .i64 c.th, .int .i64 c.sl, .int .i64 c.lo, .int .i64 c.bu]), (1, .slice (some ⟨b_37, of_38, none⟩) xs.length cap), (2, .pointer (some ⟨r_1, 0, none⟩)), (6, .pointer (some ⟨p_14, 0, none⟩)), (8, .bool true), (9, .slice (some ⟨r_26, 0, none⟩) c.th.toNat c.th.toNat), (10, .int .i64 ((i : Nat) : Int)), (13, .slice r_166 X_164.2.dev.kept.length cc_167), (14, .int .i64 ((k2 : Nat) : Int)), (120, undef)] ∧ 20 ≤ k2 ∧ k2 ≤ 28 ∧ K.Sat w0 [l_156, l_168, ld_163, gl_18, m_20, g_2, fr] w_) ((fun (k2 : Nat) => 28 - k2) 20) ?_ ?_
        ·
         exact ⟨20, rfl, ⟨by rfl, by rfl, by rfl, by rfl, by rfl, by rfl, by rfl, by rfl, by rfl, by rfl, trivial⟩, (by omega), (by omega), hS.pick [0, 1, 2, 3, 4, 5, 6]⟩
        ·
         clear hS
         intro m_170 F_171 w hI
         obtain ⟨k2, rfl, sl_172, p_173, p_174, hS⟩ := hI
         rw [← K.Sl.puts sl_172]; clear sl_172
         refine K.s (K.s (K.g (K.q [.int .i64 ((k2 : Nat) : Int)] ?_)))
         by_cases h_175 : (((k2 : Nat) : Int) : Int) < (28 : Int)
         ·
          refine K.y ((((k2 : Nat) : Int) : Int) < (28 : Int)) h_175 ?_
          refine K.z (K.t (K.h (K.k (K.t (K.s ?_)))))
          refine K.KW.block ?_
          refine K.s ?_
          have hk8 : in8 ((k2 : Nat) : Int) := ⟨by omega, by omega⟩
          have hwk : isW (sn X_164.2 ((k2 : Nat) : Int)) := getD_W hI2.mem.good.2.1
          have hpk2 := sn_peek (M := X_164.2) (show 8 ≤ (lns c).toNat by omega) hk8
          have hwk2 : isW (X_164.2.dev.kept.getD k2 0) := getD_W hI2.mem.good.2.2
          refine K.g (K.q [.pointer (some ⟨p_14, 0, none⟩), .int .i64 ((k2 : Nat) : Int)] ?_)
          refine K.l (K.OW.gcall hS [0] [1, 2, 3, 4, 5, 6] [.pointer (some ⟨p_14, 0, none⟩), .int .i64 ((k2 : Nat) : Int)] (pkS_ok _ _ _ _ _ _ _ x_161 ((k2 : Nat) : Int) (by first | omega | assumption | exact aft_int (by assumption) _ | exact ann_int (by assumption) _ (by first | omega | assumption)) (sn X_164.2 ((k2 : Nat) : Int)) (hpk2)) ?_)
          clear hS; rintro _ _ w ⟨rfl, rfl⟩ hS
          replace hS : K.Sat w0 [l_156, l_168, ld_163, gl_18, m_20, g_2, fr] w := hS
          refine K.q [.tuple #[.int .u64 (sn X_164.2 ((k2 : Nat) : Int)), .bool true], .int .u64 (sn X_164.2 ((k2 : Nat) : Int)), .bool true, .int .u64 (sn X_164.2 ((k2 : Nat) : Int)), .bool true] (K.z (K.t (K.s (K.g (K.q [.int .i64 ((k2 : Nat) : Int), .slice r_166 X_164.2.dev.kept.length cc_167] ?_)))))
          refine K.a (K.QR.len (P := Try.prog) rfl rfl Try.underlying46) ?_
          refine K.x ((((k2 : Nat) : Int) : Int) ≥ (((X_164.2.dev.kept.length : Nat) : Int) : Int)) (by omega) ?_
          refine K.q [.bool false, .int .u64 (sn X_164.2 ((k2 : Nat) : Int))] ?_
          refine K.l (K.OW.gcall hS [] [0, 1, 2, 3, 4, 5, 6] [.int .u64 (sn X_164.2 ((k2 : Nat) : Int))] (rdirty_ok _ (sn X_164.2 ((k2 : Nat) : Int)) (by first | assumption | exact isL.w (by assumption) | exact soilI_w _ | (unfold isW; omega))) ?_)
          clear hS; rintro _ _ w ⟨rfl, (⟨rfl, h_176⟩ | ⟨rfl, h_177⟩)⟩ hS
          ·
           replace hS : K.Sat w0 [l_156, l_168, ld_163, gl_18, m_20, g_2, fr] w := hS
           refine K.q [.bool false, .bool false] (K.n_ (K.n_ (K.n_ (K.n_ (K.n_ (K.n_ (K.n_ (K.q [.bool false, .bool false] (K.z (K.t (K.f (K.k ?_))))))))))))
           refine K.blk_normal ?_
           refine K.t (K.g (K.q [.int .i64 ((k2 : Nat) : Int)] ?_))
           refine K.a (K.QR.n64 ((((k2 : Nat) : Int) : Int) + (1 : Int)) ((k2 + 1 : Nat) : Int) (by kernel_rfl) (by omega)) ?_
           refine K.q [.int .i64 ((k2 + 1 : Nat) : Int)] (K.z (K.t ?_))
           refine ⟨_, ?_, k2 + 1, rfl, ⟨by rfl, by rfl, by rfl, by rfl, by rfl, by rfl, by rfl, by rfl, by rfl, by rfl, trivial⟩, (by omega), (by omega), hS.pick [0, 1, 2, 3, 4, 5, 6]⟩
           omega
          ·
           replace hS : K.Sat w0 [l_156, l_168, ld_163, gl_18, m_20, g_2, fr] w := hS
           refine K.q [.bool true, .bool true, .slice r_166 X_164.2.dev.kept.length cc_167, .int .i64 ((k2 : Nat) : Int)] ?_
           obtain ⟨b_178, rfl⟩ := o_169.some_ (by have := o_169.le; omega)
           refine K.a (K.QR.ix k2 1 rfl rfl rfl Try.underlying46 (by kernel_rfl) (by omega) (by first | (simp; done) | omega | (simp; omega))) ?_
           refine K.d (.int .u64 (X_164.2.dev.kept.getD k2 0)) (K.Own.atS (c := cU64) (d := 0) (fun _ => rfl) (hS.ownr 1 rfl o_169) rfl k2 (by omega)) ?_
           refine K.l (K.OW.gcall hS [] [0, 1, 2, 3, 4, 5, 6] [.int .u64 (X_164.2.dev.kept.getD k2 0)] (rclean_ok _ (X_164.2.dev.kept.getD k2 0) (by first | assumption | exact isL.w (by assumption) | exact soilI_w _ | (unfold isW; omega))) ?_)
           clear hS; rintro _ _ w ⟨rfl, rfl⟩ hS
           replace hS : K.Sat w0 [l_156, l_168, ld_163, gl_18, m_20, g_2, fr] w := hS
           have hw_180 : isL (cleanI (X_164.2.dev.kept.getD k2 0)) := cleanI_l _
           refine K.q [.int .u64 (sn X_164.2 ((k2 : Nat) : Int))] ?_
           refine K.xn ((cleanI (X_164.2.dev.kept.getD k2 0)) : Int) ((sn X_164.2 ((k2 : Nat) : Int)) : Int) (hI2.mem.clean _ hk8 (by assumption)) ?_
           refine K.q [.bool false, .bool false] (K.z (K.t (K.f (K.k ?_))))
           refine K.blk_normal ?_
           refine K.t (K.g (K.q [.int .i64 ((k2 : Nat) : Int)] ?_))
           refine K.a (K.QR.n64 ((((k2 : Nat) : Int) : Int) + (1 : Int)) ((k2 + 1 : Nat) : Int) (by kernel_rfl) (by omega)) ?_
           refine K.q [.int .i64 ((k2 + 1 : Nat) : Int)] (K.z (K.t ?_))
           refine ⟨_, ?_, k2 + 1, rfl, ⟨by rfl, by rfl, by rfl, by rfl, by rfl, by rfl, by rfl, by rfl, by rfl, by rfl, trivial⟩, (by omega), (by omega), hS.pick [0, 1, 2, 3, 4, 5, 6]⟩
           omega
         ·
          refine K.x ((((k2 : Nat) : Int) : Int) < (28 : Int)) h_175 ?_
          refine K.z (K.t (K.f ?_))
          refine K.KW.exit ?_
          refine K.thn_exit ?_
          refine K.thn_exit ?_
          refine K.blk_hit ?_
          refine K.blk_normal ?_
          refine K.t (K.g (K.q [.int .i64 ((i : Nat) : Int)] ?_))
          refine K.a (K.QR.n64 ((((i : Nat) : Int) : Int) + (1 : Int)) ((i + 1 : Nat) : Int) (by kernel_rfl) (by omega)) ?_
          refine K.q [.int .i64 ((i + 1 : Nat) : Int)] (K.z (K.t ?_))
          refine ⟨_, ?_, i + 1, (hs.set tk X_164.1), X_164.2, ld_163, l_156, rfl, ⟨by rfl, by rfl, by rfl, by rfl, by rfl, by rfl, by rfl, by rfl, trivial⟩, (by omega), (hI2), hd_162, x_161, hS.pick [2, 3, 0, 4, 5, 6]⟩
          omega
       ·
        refine K.c 12 rfl (K.QR.nice (v := .bool (decide (((xs.getD i 0 : Int) % 16 : Int) ≥ (8 : Int)))) (by kernel_rfl) (congrArg Value.bool (decide_eq_false h_153))) (hS.pick []) ?_
        refine K.DW.l 13 rfl (by kernel_rfl) rfl (K.OW.gcall hS [0, 2, 5] [1, 3, 4, 6, 7, 8] [.pointer (some ⟨r_26, 0 + tk * 2, none⟩), .pointer (some ⟨p_14, 0, none⟩), .int .i64 ((tk : Nat) : Int), .int .i64 ((20 : Int) + (((xs.getD i 0 : Int) / 16 : Int) % 8 : Int)), .int .i64 ((i : Nat) : Int), .bool false] (hand_rd _ pS S r_26 tk hs.length _ _ _ _ i cs_145 hcs_146 hall_147 htl_148 (by omega) (by omega) ((20 : Int) + (((xs.getD i 0 : Int) / 16 : Int) % 8 : Int)) _ hat8 false M _ _ how_151 x_35 hMg hpk0 _ hge hSg) ?_)
        clear hS; rintro _ _ w ⟨row_181, g_182, l_183, c_184, rfl, rfl, hc_185, el_186, ow_187, x_188⟩ hS
        replace hS : K.Sat w0 [row_181, g_182, l_183, hA_142, hB_144, gl_18, m_20, g_2, fr] w := hS
        have hd_189 : K.Hands handEl 68 2 (row_181 ++ (hA_142 ++ (g_182 ++ hB_144))) ((some ⟨r_26, 0, none⟩)) (hs.set tk (goH ((lns c).toNat) (c.th.toNat) M (nextH ((lns c).toNat) i false ((20 : Int) + (((xs.getD i 0 : Int) / 16 : Int) % 8 : Int)) tk M (HandK.rd S))).1) := hcl_152 _ _ _ _ hc_185 el_186 ow_187
        replace hS : K.Sat w0 [(row_181 ++ (hA_142 ++ (g_182 ++ hB_144))), l_183, gl_18, m_20, g_2, fr] w := (hS.pick [0, 3, 1, 4, 2, 5, 6, 7, 8]).of (by simp [K.pick, K.nth])
        generalize (row_181 ++ (hA_142 ++ (g_182 ++ hB_144))) = ld_190 at hS hd_189
        have hI2 := hI.hand hSo (by omega) (by omega) hat8 (by omega) (by omega) false
        obtain ⟨X_191, hX_192⟩ : ∃ X, X = (goH ((lns c).toNat) (c.th.toNat) M (nextH ((lns c).toNat) i false ((20 : Int) + (((xs.getD i 0 : Int) / 16 : Int) % 8 : Int)) tk M (HandK.rd S))) := ⟨_, rfl⟩
        rw [← hX_192] at hd_189 x_188 hI2
        have hkl : X_191.2.dev.kept.length = _ := hI2.mem.ok.1
        refine ⟨.inl (hS.pick []), ?_⟩
        refine K.DW.done (by kernel_rfl) ?_
        refine K.t (K.s (K.g (K.q [.pointer (some ⟨p_14, 0, none⟩)] ?_)))
        refine K.l (K.OW.gcall hS [1] [0, 2, 3, 4, 5] [.pointer (some ⟨p_14, 0, none⟩)] (mDevice_ok _ _ _ _ _ _ _ x_188 ) ?_)
        clear hS; rintro _ _ w ⟨rfl, rfl⟩ hS
        replace hS : K.Sat w0 [l_183, ld_190, gl_18, m_20, g_2, fr] w := hS
        refine K.l (K.OW.gcall hS [0] [1, 2, 3, 4, 5] [.pointer (some ⟨q_15, 0, none⟩)] (mdKept_ok _ _ _ _ _ _ _ x_188) ?_)
        clear hS; rintro _ _ w ⟨r_193, cc_194, l_195, rfl, rfl, o_196⟩ hS
        replace hS : K.Sat w0 [l_183, l_195, ld_190, gl_18, m_20, g_2, fr] w := hS
        refine K.q [.slice r_193 X_191.2.dev.kept.length cc_194] (K.z (K.t (K.s (K.g (K.q [.int .i64 20] (K.z (K.t ?_)))))))
        refine K.KW.block ?_
        refine K.KW.loop (fun m_ F_ w_ => ∃ (k2 : Nat), m_ = 28 - k2 ∧ K.Sl F_ [(0, .agg #[.int .i64 c.th, .int .i64 c.sl, .int .i64 c.lo, .int .i64 c.bu]), (1, .slice (some ⟨b_37, of_38, none⟩) xs.length cap), (2, .pointer (some ⟨r_1, 0, none⟩)), (6, .pointer (some ⟨p_14, 0, none⟩)), (8, .bool true), (9, .slice (some ⟨r_26, 0, none⟩) c.th.toNat c.th.toNat), (10, .int .i64 ((i : Nat) : Int)), (13, .slice r_193 X_191.2.dev.kept.length cc_194), (14, .int .i64 ((k2 : Nat) : Int)), (120, undef)] ∧ 20 ≤ k2 ∧ k2 ≤ 28 ∧ K.Sat w0 [l_183, l_195, ld_190, gl_18, m_20, g_2, fr] w_) ((fun (k2 : Nat) => 28 - k2) 20) ?_ ?_
        ·
         exact ⟨20, rfl, ⟨by rfl, by rfl, by rfl, by rfl, by rfl, by rfl, by rfl, by rfl, by rfl, by rfl, trivial⟩, (by omega), (by omega), hS.pick [0, 1, 2, 3, 4, 5, 6]⟩
        ·
         clear hS
         intro m_197 F_198 w hI
         obtain ⟨k2, rfl, sl_199, p_200, p_201, hS⟩ := hI
         rw [← K.Sl.puts sl_199]; clear sl_199
         refine K.s (K.s (K.g (K.q [.int .i64 ((k2 : Nat) : Int)] ?_)))
         by_cases h_202 : (((k2 : Nat) : Int) : Int) < (28 : Int)
         ·
          refine K.y ((((k2 : Nat) : Int) : Int) < (28 : Int)) h_202 ?_
          refine K.z (K.t (K.h (K.k (K.t (K.s ?_)))))
          refine K.KW.block ?_
          refine K.s ?_
          have hk8 : in8 ((k2 : Nat) : Int) := ⟨by omega, by omega⟩
          have hwk : isW (sn X_191.2 ((k2 : Nat) : Int)) := getD_W hI2.mem.good.2.1
          have hpk2 := sn_peek (M := X_191.2) (show 8 ≤ (lns c).toNat by omega) hk8
          have hwk2 : isW (X_191.2.dev.kept.getD k2 0) := getD_W hI2.mem.good.2.2
          refine K.g (K.q [.pointer (some ⟨p_14, 0, none⟩), .int .i64 ((k2 : Nat) : Int)] ?_)
          refine K.l (K.OW.gcall hS [0] [1, 2, 3, 4, 5, 6] [.pointer (some ⟨p_14, 0, none⟩), .int .i64 ((k2 : Nat) : Int)] (pkS_ok _ _ _ _ _ _ _ x_188 ((k2 : Nat) : Int) (by first | omega | assumption | exact aft_int (by assumption) _ | exact ann_int (by assumption) _ (by first | omega | assumption)) (sn X_191.2 ((k2 : Nat) : Int)) (hpk2)) ?_)
          clear hS; rintro _ _ w ⟨rfl, rfl⟩ hS
          replace hS : K.Sat w0 [l_183, l_195, ld_190, gl_18, m_20, g_2, fr] w := hS
          refine K.q [.tuple #[.int .u64 (sn X_191.2 ((k2 : Nat) : Int)), .bool true], .int .u64 (sn X_191.2 ((k2 : Nat) : Int)), .bool true, .int .u64 (sn X_191.2 ((k2 : Nat) : Int)), .bool true] (K.z (K.t (K.s (K.g (K.q [.int .i64 ((k2 : Nat) : Int), .slice r_193 X_191.2.dev.kept.length cc_194] ?_)))))
          refine K.a (K.QR.len (P := Try.prog) rfl rfl Try.underlying46) ?_
          refine K.x ((((k2 : Nat) : Int) : Int) ≥ (((X_191.2.dev.kept.length : Nat) : Int) : Int)) (by omega) ?_
          refine K.q [.bool false, .int .u64 (sn X_191.2 ((k2 : Nat) : Int))] ?_
          refine K.l (K.OW.gcall hS [] [0, 1, 2, 3, 4, 5, 6] [.int .u64 (sn X_191.2 ((k2 : Nat) : Int))] (rdirty_ok _ (sn X_191.2 ((k2 : Nat) : Int)) (by first | assumption | exact isL.w (by assumption) | exact soilI_w _ | (unfold isW; omega))) ?_)
          clear hS; rintro _ _ w ⟨rfl, (⟨rfl, h_203⟩ | ⟨rfl, h_204⟩)⟩ hS
          ·
           replace hS : K.Sat w0 [l_183, l_195, ld_190, gl_18, m_20, g_2, fr] w := hS
           refine K.q [.bool false, .bool false] (K.n_ (K.n_ (K.n_ (K.n_ (K.n_ (K.n_ (K.n_ (K.q [.bool false, .bool false] (K.z (K.t (K.f (K.k ?_))))))))))))
           refine K.blk_normal ?_
           refine K.t (K.g (K.q [.int .i64 ((k2 : Nat) : Int)] ?_))
           refine K.a (K.QR.n64 ((((k2 : Nat) : Int) : Int) + (1 : Int)) ((k2 + 1 : Nat) : Int) (by kernel_rfl) (by omega)) ?_
           refine K.q [.int .i64 ((k2 + 1 : Nat) : Int)] (K.z (K.t ?_))
           refine ⟨_, ?_, k2 + 1, rfl, ⟨by rfl, by rfl, by rfl, by rfl, by rfl, by rfl, by rfl, by rfl, by rfl, by rfl, trivial⟩, (by omega), (by omega), hS.pick [0, 1, 2, 3, 4, 5, 6]⟩
           omega
          ·
           replace hS : K.Sat w0 [l_183, l_195, ld_190, gl_18, m_20, g_2, fr] w := hS
           refine K.q [.bool true, .bool true, .slice r_193 X_191.2.dev.kept.length cc_194, .int .i64 ((k2 : Nat) : Int)] ?_
           obtain ⟨b_205, rfl⟩ := o_196.some_ (by have := o_196.le; omega)
           refine K.a (K.QR.ix k2 1 rfl rfl rfl Try.underlying46 (by kernel_rfl) (by omega) (by first | (simp; done) | omega | (simp; omega))) ?_
           refine K.d (.int .u64 (X_191.2.dev.kept.getD k2 0)) (K.Own.atS (c := cU64) (d := 0) (fun _ => rfl) (hS.ownr 1 rfl o_196) rfl k2 (by omega)) ?_
           refine K.l (K.OW.gcall hS [] [0, 1, 2, 3, 4, 5, 6] [.int .u64 (X_191.2.dev.kept.getD k2 0)] (rclean_ok _ (X_191.2.dev.kept.getD k2 0) (by first | assumption | exact isL.w (by assumption) | exact soilI_w _ | (unfold isW; omega))) ?_)
           clear hS; rintro _ _ w ⟨rfl, rfl⟩ hS
           replace hS : K.Sat w0 [l_183, l_195, ld_190, gl_18, m_20, g_2, fr] w := hS
           have hw_207 : isL (cleanI (X_191.2.dev.kept.getD k2 0)) := cleanI_l _
           refine K.q [.int .u64 (sn X_191.2 ((k2 : Nat) : Int))] ?_
           refine K.xn ((cleanI (X_191.2.dev.kept.getD k2 0)) : Int) ((sn X_191.2 ((k2 : Nat) : Int)) : Int) (hI2.mem.clean _ hk8 (by assumption)) ?_
           refine K.q [.bool false, .bool false] (K.z (K.t (K.f (K.k ?_))))
           refine K.blk_normal ?_
           refine K.t (K.g (K.q [.int .i64 ((k2 : Nat) : Int)] ?_))
           refine K.a (K.QR.n64 ((((k2 : Nat) : Int) : Int) + (1 : Int)) ((k2 + 1 : Nat) : Int) (by kernel_rfl) (by omega)) ?_
           refine K.q [.int .i64 ((k2 + 1 : Nat) : Int)] (K.z (K.t ?_))
           refine ⟨_, ?_, k2 + 1, rfl, ⟨by rfl, by rfl, by rfl, by rfl, by rfl, by rfl, by rfl, by rfl, by rfl, by rfl, trivial⟩, (by omega), (by omega), hS.pick [0, 1, 2, 3, 4, 5, 6]⟩
           omega
         ·
          refine K.x ((((k2 : Nat) : Int) : Int) < (28 : Int)) h_202 ?_
          refine K.z (K.t (K.f ?_))
          refine K.KW.exit ?_
          refine K.thn_exit ?_
          refine K.thn_exit ?_
          refine K.blk_hit ?_
          refine K.blk_normal ?_
          refine K.t (K.g (K.q [.int .i64 ((i : Nat) : Int)] ?_))
          refine K.a (K.QR.n64 ((((i : Nat) : Int) : Int) + (1 : Int)) ((i + 1 : Nat) : Int) (by kernel_rfl) (by omega)) ?_
          refine K.q [.int .i64 ((i + 1 : Nat) : Int)] (K.z (K.t ?_))
          refine ⟨_, ?_, i + 1, (hs.set tk X_191.1), X_191.2, ld_190, l_183, rfl, ⟨by rfl, by rfl, by rfl, by rfl, by rfl, by rfl, by rfl, by rfl, trivial⟩, (by omega), (hI2), hd_189, x_188, hS.pick [2, 3, 0, 4, 5, 6]⟩
          omega
      | se S =>
       obtain ⟨row_208, hA_209, hg_210, hB_211, cs_212, rfl, hcs_213, hall_214, htl_215, hct_216, hel_217, how_218, hcl_219⟩ := x_34.open_ tk (HandK.se S) hSo
       replace hS : K.Sat w0 [row_208, hA_209, hg_210, hB_211, gl_18, l_M, m_20, g_2, fr] w := hS.of
       obtain ⟨pS, hce, hge⟩ := hel_217
       have hSg : S.good := (hI.each tk _ hSo).1
       rw [hce] at how_218
       replace hS : K.Sat w0 [row_208, hA_209, hg_210, hB_211, gl_18, l_M, m_20, g_2, fr] w := hS.of (by simp [K.pick, K.nth])
       refine K.KW.gdrawn [] hS (by kernel_rfl) ?_
       clear hS; intro w hS
       refine K.p 0 rfl (.slice (some ⟨r_26, 0, none⟩) c.th.toNat c.th.toNat) (hS.pick []) ?_
       refine K.p 1 rfl (.int .i64 ((tk : Nat) : Int)) (hS.pick []) ?_
       refine K.m 2 rfl (fun w hS => K.QR.ix (0 + tk * 2) 2 rfl rfl rfl Try.underlying63 (by kernel_rfl) (by omega) (by first | (simp; done) | omega | (simp; omega))) (hS.pick []) ?_
       refine K.p 3 rfl (.pointer (some ⟨p_14, 0, none⟩)) (hS.pick []) ?_
       refine K.p 4 rfl (.int .i64 ((tk : Nat) : Int)) (hS.pick []) ?_
       refine K.p 5 rfl (.int .i64 ((20 : Int) + (((xs.getD i 0 : Int) / 16 : Int) % 8 : Int))) (hS.pick []) ?_
       refine K.p 6 rfl (.int .i64 ((i : Nat) : Int)) (hS.pick []) ?_
       refine K.p 7 rfl (.slice (some ⟨b_37, of_38, none⟩) xs.length cap) (hS.pick []) ?_
       refine K.b 8 rfl (.int .i64 ((i : Nat) : Int)) (hS.pick []) ?_
       refine K.c 9 rfl (K.QR.ix (of_38 + i * 1) 1 rfl rfl rfl Try.underlying62 (by kernel_rfl) (by omega) (by first | (simp; done) | omega | (simp; omega))) (hS.pick []) ?_
       refine K.c 10 rfl (K.QR.ld1 (v := .int .u16 (xs.getD i 0)) rfl rfl (by kernel_rfl) ((hx.no hS.chg).ld i (by omega) 0 _ rfl)) (hS.pick []) ?_
       refine K.c 11 rfl (K.QR.remany (k := .u16) (xs.getD i 0 : Int) 16 ((xs.getD i 0 : Int) % 16) (by kernel_rfl) (by omega) (by omega)) (hS.pick []) ?_
       by_cases h_220 : ((xs.getD i 0 : Int) % 16 : Int) ≥ (8 : Int)
       ·
        refine K.c 12 rfl (K.QR.nice (v := .bool (decide (((xs.getD i 0 : Int) % 16 : Int) ≥ (8 : Int)))) (by kernel_rfl) (congrArg Value.bool (decide_eq_true h_220))) (hS.pick []) ?_
        refine K.DW.l 13 rfl (by kernel_rfl) rfl (K.OW.gcall hS [0, 2, 5] [1, 3, 4, 6, 7, 8] [.pointer (some ⟨r_26, 0 + tk * 2, none⟩), .pointer (some ⟨p_14, 0, none⟩), .int .i64 ((tk : Nat) : Int), .int .i64 ((20 : Int) + (((xs.getD i 0 : Int) / 16 : Int) % 8 : Int)), .int .i64 ((i : Nat) : Int), .bool true] (hand_se _ pS S r_26 tk hs.length _ _ _ _ i cs_212 hcs_213 hall_214 htl_215 (by omega) (by omega) ((20 : Int) + (((xs.getD i 0 : Int) / 16 : Int) % 8 : Int)) _ hat8 true M _ _ how_218 x_35 hMg hpk0 _ hge hSg) ?_)
        clear hS; rintro _ _ w ⟨row_221, g_222, l_223, c_224, rfl, rfl, hc_225, el_226, ow_227, x_228⟩ hS
        replace hS : K.Sat w0 [row_221, g_222, l_223, hA_209, hB_211, gl_18, m_20, g_2, fr] w := hS
        have hd_229 : K.Hands handEl 68 2 (row_221 ++ (hA_209 ++ (g_222 ++ hB_211))) ((some ⟨r_26, 0, none⟩)) (hs.set tk (goH ((lns c).toNat) (c.th.toNat) M (nextH ((lns c).toNat) i true ((20 : Int) + (((xs.getD i 0 : Int) / 16 : Int) % 8 : Int)) tk M (HandK.se S))).1) := hcl_219 _ _ _ _ hc_225 el_226 ow_227
        replace hS : K.Sat w0 [(row_221 ++ (hA_209 ++ (g_222 ++ hB_211))), l_223, gl_18, m_20, g_2, fr] w := (hS.pick [0, 3, 1, 4, 2, 5, 6, 7, 8]).of (by simp [K.pick, K.nth])
        generalize (row_221 ++ (hA_209 ++ (g_222 ++ hB_211))) = ld_230 at hS hd_229
        have hI2 := hI.hand hSo (by omega) (by omega) hat8 (by omega) (by omega) true
        obtain ⟨X_231, hX_232⟩ : ∃ X, X = (goH ((lns c).toNat) (c.th.toNat) M (nextH ((lns c).toNat) i true ((20 : Int) + (((xs.getD i 0 : Int) / 16 : Int) % 8 : Int)) tk M (HandK.se S))) := ⟨_, rfl⟩
        rw [← hX_232] at hd_229 x_228 hI2
        have hkl : X_231.2.dev.kept.length = _ := hI2.mem.ok.1
        refine ⟨.inl (hS.pick []), ?_⟩
        refine K.DW.done (by kernel_rfl) ?_
        refine K.t (K.s (K.g (K.q [.pointer (some ⟨p_14, 0, none⟩)] ?_)))
        refine K.l (K.OW.gcall hS [1] [0, 2, 3, 4, 5] [.pointer (some ⟨p_14, 0, none⟩)] (mDevice_ok _ _ _ _ _ _ _ x_228 ) ?_)
        clear hS; rintro _ _ w ⟨rfl, rfl⟩ hS
        replace hS : K.Sat w0 [l_223, ld_230, gl_18, m_20, g_2, fr] w := hS
        refine K.l (K.OW.gcall hS [0] [1, 2, 3, 4, 5] [.pointer (some ⟨q_15, 0, none⟩)] (mdKept_ok _ _ _ _ _ _ _ x_228) ?_)
        clear hS; rintro _ _ w ⟨r_233, cc_234, l_235, rfl, rfl, o_236⟩ hS
        replace hS : K.Sat w0 [l_223, l_235, ld_230, gl_18, m_20, g_2, fr] w := hS
        refine K.q [.slice r_233 X_231.2.dev.kept.length cc_234] (K.z (K.t (K.s (K.g (K.q [.int .i64 20] (K.z (K.t ?_)))))))
        refine K.KW.block ?_
        refine K.KW.loop (fun m_ F_ w_ => ∃ (k2 : Nat), m_ = 28 - k2 ∧ K.Sl F_ [(0, .agg #[.int .i64 c.th, .int .i64 c.sl, .int .i64 c.lo, .int .i64 c.bu]), (1, .slice (some ⟨b_37, of_38, none⟩) xs.length cap), (2, .pointer (some ⟨r_1, 0, none⟩)), (6, .pointer (some ⟨p_14, 0, none⟩)), (8, .bool true), (9, .slice (some ⟨r_26, 0, none⟩) c.th.toNat c.th.toNat), (10, .int .i64 ((i : Nat) : Int)), (13, .slice r_233 X_231.2.dev.kept.length cc_234), (14, .int .i64 ((k2 : Nat) : Int)), (120, undef)] ∧ 20 ≤ k2 ∧ k2 ≤ 28 ∧ K.Sat w0 [l_223, l_235, ld_230, gl_18, m_20, g_2, fr] w_) ((fun (k2 : Nat) => 28 - k2) 20) ?_ ?_
        ·
         exact ⟨20, rfl, ⟨by rfl, by rfl, by rfl, by rfl, by rfl, by rfl, by rfl, by rfl, by rfl, by rfl, trivial⟩, (by omega), (by omega), hS.pick [0, 1, 2, 3, 4, 5, 6]⟩
        ·
         clear hS
         intro m_237 F_238 w hI
         obtain ⟨k2, rfl, sl_239, p_240, p_241, hS⟩ := hI
         rw [← K.Sl.puts sl_239]; clear sl_239
         refine K.s (K.s (K.g (K.q [.int .i64 ((k2 : Nat) : Int)] ?_)))
         by_cases h_242 : (((k2 : Nat) : Int) : Int) < (28 : Int)
         ·
          refine K.y ((((k2 : Nat) : Int) : Int) < (28 : Int)) h_242 ?_
          refine K.z (K.t (K.h (K.k (K.t (K.s ?_)))))
          refine K.KW.block ?_
          refine K.s ?_
          have hk8 : in8 ((k2 : Nat) : Int) := ⟨by omega, by omega⟩
          have hwk : isW (sn X_231.2 ((k2 : Nat) : Int)) := getD_W hI2.mem.good.2.1
          have hpk2 := sn_peek (M := X_231.2) (show 8 ≤ (lns c).toNat by omega) hk8
          have hwk2 : isW (X_231.2.dev.kept.getD k2 0) := getD_W hI2.mem.good.2.2
          refine K.g (K.q [.pointer (some ⟨p_14, 0, none⟩), .int .i64 ((k2 : Nat) : Int)] ?_)
          refine K.l (K.OW.gcall hS [0] [1, 2, 3, 4, 5, 6] [.pointer (some ⟨p_14, 0, none⟩), .int .i64 ((k2 : Nat) : Int)] (pkS_ok _ _ _ _ _ _ _ x_228 ((k2 : Nat) : Int) (by first | omega | assumption | exact aft_int (by assumption) _ | exact ann_int (by assumption) _ (by first | omega | assumption)) (sn X_231.2 ((k2 : Nat) : Int)) (hpk2)) ?_)
          clear hS; rintro _ _ w ⟨rfl, rfl⟩ hS
          replace hS : K.Sat w0 [l_223, l_235, ld_230, gl_18, m_20, g_2, fr] w := hS
          refine K.q [.tuple #[.int .u64 (sn X_231.2 ((k2 : Nat) : Int)), .bool true], .int .u64 (sn X_231.2 ((k2 : Nat) : Int)), .bool true, .int .u64 (sn X_231.2 ((k2 : Nat) : Int)), .bool true] (K.z (K.t (K.s (K.g (K.q [.int .i64 ((k2 : Nat) : Int), .slice r_233 X_231.2.dev.kept.length cc_234] ?_)))))
          refine K.a (K.QR.len (P := Try.prog) rfl rfl Try.underlying46) ?_
          refine K.x ((((k2 : Nat) : Int) : Int) ≥ (((X_231.2.dev.kept.length : Nat) : Int) : Int)) (by omega) ?_
          refine K.q [.bool false, .int .u64 (sn X_231.2 ((k2 : Nat) : Int))] ?_
          refine K.l (K.OW.gcall hS [] [0, 1, 2, 3, 4, 5, 6] [.int .u64 (sn X_231.2 ((k2 : Nat) : Int))] (rdirty_ok _ (sn X_231.2 ((k2 : Nat) : Int)) (by first | assumption | exact isL.w (by assumption) | exact soilI_w _ | (unfold isW; omega))) ?_)
          clear hS; rintro _ _ w ⟨rfl, (⟨rfl, h_243⟩ | ⟨rfl, h_244⟩)⟩ hS
          ·
           replace hS : K.Sat w0 [l_223, l_235, ld_230, gl_18, m_20, g_2, fr] w := hS
           refine K.q [.bool false, .bool false] (K.n_ (K.n_ (K.n_ (K.n_ (K.n_ (K.n_ (K.n_ (K.q [.bool false, .bool false] (K.z (K.t (K.f (K.k ?_))))))))))))
           refine K.blk_normal ?_
           refine K.t (K.g (K.q [.int .i64 ((k2 : Nat) : Int)] ?_))
           refine K.a (K.QR.n64 ((((k2 : Nat) : Int) : Int) + (1 : Int)) ((k2 + 1 : Nat) : Int) (by kernel_rfl) (by omega)) ?_
           refine K.q [.int .i64 ((k2 + 1 : Nat) : Int)] (K.z (K.t ?_))
           refine ⟨_, ?_, k2 + 1, rfl, ⟨by rfl, by rfl, by rfl, by rfl, by rfl, by rfl, by rfl, by rfl, by rfl, by rfl, trivial⟩, (by omega), (by omega), hS.pick [0, 1, 2, 3, 4, 5, 6]⟩
           omega
          ·
           replace hS : K.Sat w0 [l_223, l_235, ld_230, gl_18, m_20, g_2, fr] w := hS
           refine K.q [.bool true, .bool true, .slice r_233 X_231.2.dev.kept.length cc_234, .int .i64 ((k2 : Nat) : Int)] ?_
           obtain ⟨b_245, rfl⟩ := o_236.some_ (by have := o_236.le; omega)
           refine K.a (K.QR.ix k2 1 rfl rfl rfl Try.underlying46 (by kernel_rfl) (by omega) (by first | (simp; done) | omega | (simp; omega))) ?_
           refine K.d (.int .u64 (X_231.2.dev.kept.getD k2 0)) (K.Own.atS (c := cU64) (d := 0) (fun _ => rfl) (hS.ownr 1 rfl o_236) rfl k2 (by omega)) ?_
           refine K.l (K.OW.gcall hS [] [0, 1, 2, 3, 4, 5, 6] [.int .u64 (X_231.2.dev.kept.getD k2 0)] (rclean_ok _ (X_231.2.dev.kept.getD k2 0) (by first | assumption | exact isL.w (by assumption) | exact soilI_w _ | (unfold isW; omega))) ?_)
           clear hS; rintro _ _ w ⟨rfl, rfl⟩ hS
           replace hS : K.Sat w0 [l_223, l_235, ld_230, gl_18, m_20, g_2, fr] w := hS
           have hw_247 : isL (cleanI (X_231.2.dev.kept.getD k2 0)) := cleanI_l _
           refine K.q [.int .u64 (sn X_231.2 ((k2 : Nat) : Int))] ?_
           refine K.xn ((cleanI (X_231.2.dev.kept.getD k2 0)) : Int) ((sn X_231.2 ((k2 : Nat) : Int)) : Int) (hI2.mem.clean _ hk8 (by assumption)) ?_
           refine K.q [.bool false, .bool false] (K.z (K.t (K.f (K.k ?_))))
           refine K.blk_normal ?_
           refine K.t (K.g (K.q [.int .i64 ((k2 : Nat) : Int)] ?_))
           refine K.a (K.QR.n64 ((((k2 : Nat) : Int) : Int) + (1 : Int)) ((k2 + 1 : Nat) : Int) (by kernel_rfl) (by omega)) ?_
           refine K.q [.int .i64 ((k2 + 1 : Nat) : Int)] (K.z (K.t ?_))
           refine ⟨_, ?_, k2 + 1, rfl, ⟨by rfl, by rfl, by rfl, by rfl, by rfl, by rfl, by rfl, by rfl, by rfl, by rfl, trivial⟩, (by omega), (by omega), hS.pick [0, 1, 2, 3, 4, 5, 6]⟩
           omega
         ·
          refine K.x ((((k2 : Nat) : Int) : Int) < (28 : Int)) h_242 ?_
          refine K.z (K.t (K.f ?_))
          refine K.KW.exit ?_
          refine K.thn_exit ?_
          refine K.thn_exit ?_
          refine K.blk_hit ?_
          refine K.blk_normal ?_
          refine K.t (K.g (K.q [.int .i64 ((i : Nat) : Int)] ?_))
          refine K.a (K.QR.n64 ((((i : Nat) : Int) : Int) + (1 : Int)) ((i + 1 : Nat) : Int) (by kernel_rfl) (by omega)) ?_
          refine K.q [.int .i64 ((i + 1 : Nat) : Int)] (K.z (K.t ?_))
          refine ⟨_, ?_, i + 1, (hs.set tk X_231.1), X_231.2, ld_230, l_223, rfl, ⟨by rfl, by rfl, by rfl, by rfl, by rfl, by rfl, by rfl, by rfl, trivial⟩, (by omega), (hI2), hd_229, x_228, hS.pick [2, 3, 0, 4, 5, 6]⟩
          omega
       ·
        refine K.c 12 rfl (K.QR.nice (v := .bool (decide (((xs.getD i 0 : Int) % 16 : Int) ≥ (8 : Int)))) (by kernel_rfl) (congrArg Value.bool (decide_eq_false h_220))) (hS.pick []) ?_
        refine K.DW.l 13 rfl (by kernel_rfl) rfl (K.OW.gcall hS [0, 2, 5] [1, 3, 4, 6, 7, 8] [.pointer (some ⟨r_26, 0 + tk * 2, none⟩), .pointer (some ⟨p_14, 0, none⟩), .int .i64 ((tk : Nat) : Int), .int .i64 ((20 : Int) + (((xs.getD i 0 : Int) / 16 : Int) % 8 : Int)), .int .i64 ((i : Nat) : Int), .bool false] (hand_se _ pS S r_26 tk hs.length _ _ _ _ i cs_212 hcs_213 hall_214 htl_215 (by omega) (by omega) ((20 : Int) + (((xs.getD i 0 : Int) / 16 : Int) % 8 : Int)) _ hat8 false M _ _ how_218 x_35 hMg hpk0 _ hge hSg) ?_)
        clear hS; rintro _ _ w ⟨row_248, g_249, l_250, c_251, rfl, rfl, hc_252, el_253, ow_254, x_255⟩ hS
        replace hS : K.Sat w0 [row_248, g_249, l_250, hA_209, hB_211, gl_18, m_20, g_2, fr] w := hS
        have hd_256 : K.Hands handEl 68 2 (row_248 ++ (hA_209 ++ (g_249 ++ hB_211))) ((some ⟨r_26, 0, none⟩)) (hs.set tk (goH ((lns c).toNat) (c.th.toNat) M (nextH ((lns c).toNat) i false ((20 : Int) + (((xs.getD i 0 : Int) / 16 : Int) % 8 : Int)) tk M (HandK.se S))).1) := hcl_219 _ _ _ _ hc_252 el_253 ow_254
        replace hS : K.Sat w0 [(row_248 ++ (hA_209 ++ (g_249 ++ hB_211))), l_250, gl_18, m_20, g_2, fr] w := (hS.pick [0, 3, 1, 4, 2, 5, 6, 7, 8]).of (by simp [K.pick, K.nth])
        generalize (row_248 ++ (hA_209 ++ (g_249 ++ hB_211))) = ld_257 at hS hd_256
        have hI2 := hI.hand hSo (by omega) (by omega) hat8 (by omega) (by omega) false
        obtain ⟨X_258, hX_259⟩ : ∃ X, X = (goH ((lns c).toNat) (c.th.toNat) M (nextH ((lns c).toNat) i false ((20 : Int) + (((xs.getD i 0 : Int) / 16 : Int) % 8 : Int)) tk M (HandK.se S))) := ⟨_, rfl⟩
        rw [← hX_259] at hd_256 x_255 hI2
        have hkl : X_258.2.dev.kept.length = _ := hI2.mem.ok.1
        refine ⟨.inl (hS.pick []), ?_⟩
        refine K.DW.done (by kernel_rfl) ?_
        refine K.t (K.s (K.g (K.q [.pointer (some ⟨p_14, 0, none⟩)] ?_)))
        refine K.l (K.OW.gcall hS [1] [0, 2, 3, 4, 5] [.pointer (some ⟨p_14, 0, none⟩)] (mDevice_ok _ _ _ _ _ _ _ x_255 ) ?_)
        clear hS; rintro _ _ w ⟨rfl, rfl⟩ hS
        replace hS : K.Sat w0 [l_250, ld_257, gl_18, m_20, g_2, fr] w := hS
        refine K.l (K.OW.gcall hS [0] [1, 2, 3, 4, 5] [.pointer (some ⟨q_15, 0, none⟩)] (mdKept_ok _ _ _ _ _ _ _ x_255) ?_)
        clear hS; rintro _ _ w ⟨r_260, cc_261, l_262, rfl, rfl, o_263⟩ hS
        replace hS : K.Sat w0 [l_250, l_262, ld_257, gl_18, m_20, g_2, fr] w := hS
        refine K.q [.slice r_260 X_258.2.dev.kept.length cc_261] (K.z (K.t (K.s (K.g (K.q [.int .i64 20] (K.z (K.t ?_)))))))
        refine K.KW.block ?_
        refine K.KW.loop (fun m_ F_ w_ => ∃ (k2 : Nat), m_ = 28 - k2 ∧ K.Sl F_ [(0, .agg #[.int .i64 c.th, .int .i64 c.sl, .int .i64 c.lo, .int .i64 c.bu]), (1, .slice (some ⟨b_37, of_38, none⟩) xs.length cap), (2, .pointer (some ⟨r_1, 0, none⟩)), (6, .pointer (some ⟨p_14, 0, none⟩)), (8, .bool true), (9, .slice (some ⟨r_26, 0, none⟩) c.th.toNat c.th.toNat), (10, .int .i64 ((i : Nat) : Int)), (13, .slice r_260 X_258.2.dev.kept.length cc_261), (14, .int .i64 ((k2 : Nat) : Int)), (120, undef)] ∧ 20 ≤ k2 ∧ k2 ≤ 28 ∧ K.Sat w0 [l_250, l_262, ld_257, gl_18, m_20, g_2, fr] w_) ((fun (k2 : Nat) => 28 - k2) 20) ?_ ?_
        ·
         exact ⟨20, rfl, ⟨by rfl, by rfl, by rfl, by rfl, by rfl, by rfl, by rfl, by rfl, by rfl, by rfl, trivial⟩, (by omega), (by omega), hS.pick [0, 1, 2, 3, 4, 5, 6]⟩
        ·
         clear hS
         intro m_264 F_265 w hI
         obtain ⟨k2, rfl, sl_266, p_267, p_268, hS⟩ := hI
         rw [← K.Sl.puts sl_266]; clear sl_266
         refine K.s (K.s (K.g (K.q [.int .i64 ((k2 : Nat) : Int)] ?_)))
         by_cases h_269 : (((k2 : Nat) : Int) : Int) < (28 : Int)
         ·
          refine K.y ((((k2 : Nat) : Int) : Int) < (28 : Int)) h_269 ?_
          refine K.z (K.t (K.h (K.k (K.t (K.s ?_)))))
          refine K.KW.block ?_
          refine K.s ?_
          have hk8 : in8 ((k2 : Nat) : Int) := ⟨by omega, by omega⟩
          have hwk : isW (sn X_258.2 ((k2 : Nat) : Int)) := getD_W hI2.mem.good.2.1
          have hpk2 := sn_peek (M := X_258.2) (show 8 ≤ (lns c).toNat by omega) hk8
          have hwk2 : isW (X_258.2.dev.kept.getD k2 0) := getD_W hI2.mem.good.2.2
          refine K.g (K.q [.pointer (some ⟨p_14, 0, none⟩), .int .i64 ((k2 : Nat) : Int)] ?_)
          refine K.l (K.OW.gcall hS [0] [1, 2, 3, 4, 5, 6] [.pointer (some ⟨p_14, 0, none⟩), .int .i64 ((k2 : Nat) : Int)] (pkS_ok _ _ _ _ _ _ _ x_255 ((k2 : Nat) : Int) (by first | omega | assumption | exact aft_int (by assumption) _ | exact ann_int (by assumption) _ (by first | omega | assumption)) (sn X_258.2 ((k2 : Nat) : Int)) (hpk2)) ?_)
          clear hS; rintro _ _ w ⟨rfl, rfl⟩ hS
          replace hS : K.Sat w0 [l_250, l_262, ld_257, gl_18, m_20, g_2, fr] w := hS
          refine K.q [.tuple #[.int .u64 (sn X_258.2 ((k2 : Nat) : Int)), .bool true], .int .u64 (sn X_258.2 ((k2 : Nat) : Int)), .bool true, .int .u64 (sn X_258.2 ((k2 : Nat) : Int)), .bool true] (K.z (K.t (K.s (K.g (K.q [.int .i64 ((k2 : Nat) : Int), .slice r_260 X_258.2.dev.kept.length cc_261] ?_)))))
          refine K.a (K.QR.len (P := Try.prog) rfl rfl Try.underlying46) ?_
          refine K.x ((((k2 : Nat) : Int) : Int) ≥ (((X_258.2.dev.kept.length : Nat) : Int) : Int)) (by omega) ?_
          refine K.q [.bool false, .int .u64 (sn X_258.2 ((k2 : Nat) : Int))] ?_
          refine K.l (K.OW.gcall hS [] [0, 1, 2, 3, 4, 5, 6] [.int .u64 (sn X_258.2 ((k2 : Nat) : Int))] (rdirty_ok _ (sn X_258.2 ((k2 : Nat) : Int)) (by first | assumption | exact isL.w (by assumption) | exact soilI_w _ | (unfold isW; omega))) ?_)
          clear hS; rintro _ _ w ⟨rfl, (⟨rfl, h_270⟩ | ⟨rfl, h_271⟩)⟩ hS
          ·
           replace hS : K.Sat w0 [l_250, l_262, ld_257, gl_18, m_20, g_2, fr] w := hS
           refine K.q [.bool false, .bool false] (K.n_ (K.n_ (K.n_ (K.n_ (K.n_ (K.n_ (K.n_ (K.q [.bool false, .bool false] (K.z (K.t (K.f (K.k ?_))))))))))))
           refine K.blk_normal ?_
           refine K.t (K.g (K.q [.int .i64 ((k2 : Nat) : Int)] ?_))
           refine K.a (K.QR.n64 ((((k2 : Nat) : Int) : Int) + (1 : Int)) ((k2 + 1 : Nat) : Int) (by kernel_rfl) (by omega)) ?_
           refine K.q [.int .i64 ((k2 + 1 : Nat) : Int)] (K.z (K.t ?_))
           refine ⟨_, ?_, k2 + 1, rfl, ⟨by rfl, by rfl, by rfl, by rfl, by rfl, by rfl, by rfl, by rfl, by rfl, by rfl, trivial⟩, (by omega), (by omega), hS.pick [0, 1, 2, 3, 4, 5, 6]⟩
           omega
          ·
           replace hS : K.Sat w0 [l_250, l_262, ld_257, gl_18, m_20, g_2, fr] w := hS
           refine K.q [.bool true, .bool true, .slice r_260 X_258.2.dev.kept.length cc_261, .int .i64 ((k2 : Nat) : Int)] ?_
           obtain ⟨b_272, rfl⟩ := o_263.some_ (by have := o_263.le; omega)
           refine K.a (K.QR.ix k2 1 rfl rfl rfl Try.underlying46 (by kernel_rfl) (by omega) (by first | (simp; done) | omega | (simp; omega))) ?_
           refine K.d (.int .u64 (X_258.2.dev.kept.getD k2 0)) (K.Own.atS (c := cU64) (d := 0) (fun _ => rfl) (hS.ownr 1 rfl o_263) rfl k2 (by omega)) ?_
           refine K.l (K.OW.gcall hS [] [0, 1, 2, 3, 4, 5, 6] [.int .u64 (X_258.2.dev.kept.getD k2 0)] (rclean_ok _ (X_258.2.dev.kept.getD k2 0) (by first | assumption | exact isL.w (by assumption) | exact soilI_w _ | (unfold isW; omega))) ?_)
           clear hS; rintro _ _ w ⟨rfl, rfl⟩ hS
           replace hS : K.Sat w0 [l_250, l_262, ld_257, gl_18, m_20, g_2, fr] w := hS
           have hw_274 : isL (cleanI (X_258.2.dev.kept.getD k2 0)) := cleanI_l _
           refine K.q [.int .u64 (sn X_258.2 ((k2 : Nat) : Int))] ?_
           refine K.xn ((cleanI (X_258.2.dev.kept.getD k2 0)) : Int) ((sn X_258.2 ((k2 : Nat) : Int)) : Int) (hI2.mem.clean _ hk8 (by assumption)) ?_
           refine K.q [.bool false, .bool false] (K.z (K.t (K.f (K.k ?_))))
           refine K.blk_normal ?_
           refine K.t (K.g (K.q [.int .i64 ((k2 : Nat) : Int)] ?_))
           refine K.a (K.QR.n64 ((((k2 : Nat) : Int) : Int) + (1 : Int)) ((k2 + 1 : Nat) : Int) (by kernel_rfl) (by omega)) ?_
           refine K.q [.int .i64 ((k2 + 1 : Nat) : Int)] (K.z (K.t ?_))
           refine ⟨_, ?_, k2 + 1, rfl, ⟨by rfl, by rfl, by rfl, by rfl, by rfl, by rfl, by rfl, by rfl, by rfl, by rfl, trivial⟩, (by omega), (by omega), hS.pick [0, 1, 2, 3, 4, 5, 6]⟩
           omega
         ·
          refine K.x ((((k2 : Nat) : Int) : Int) < (28 : Int)) h_269 ?_
          refine K.z (K.t (K.f ?_))
          refine K.KW.exit ?_
          refine K.thn_exit ?_
          refine K.thn_exit ?_
          refine K.blk_hit ?_
          refine K.blk_normal ?_
          refine K.t (K.g (K.q [.int .i64 ((i : Nat) : Int)] ?_))
          refine K.a (K.QR.n64 ((((i : Nat) : Int) : Int) + (1 : Int)) ((i + 1 : Nat) : Int) (by kernel_rfl) (by omega)) ?_
          refine K.q [.int .i64 ((i + 1 : Nat) : Int)] (K.z (K.t ?_))
          refine ⟨_, ?_, i + 1, (hs.set tk X_258.1), X_258.2, ld_257, l_250, rfl, ⟨by rfl, by rfl, by rfl, by rfl, by rfl, by rfl, by rfl, by rfl, trivial⟩, (by omega), (hI2), hd_256, x_255, hS.pick [2, 3, 0, 4, 5, 6]⟩
          omega
    ·
     refine K.x ((((i : Nat) : Int) : Int) < (((xs.length : Nat) : Int) : Int)) h_36 ?_
     refine K.z (K.t (K.f ?_))
     refine K.KW.exit ?_
     refine K.thn_exit ?_
     refine K.thn_exit ?_
     refine K.blk_hit ?_
     refine K.t (K.s (K.g ?_))
     refine K.l (K.OW.gcall hS [] [0, 1, 2, 3, 4, 5] [] (awake13_ok _) ?_)
     clear hS; rintro _ _ w ⟨rfl, rfl⟩ hS
     replace hS : K.Sat w0 [hd1, gl_18, l_M, m_20, g_2, fr] w := hS
     refine K.q [.bool true, .bool true, .bool true, .bool true] (K.z (K.t (K.r ?_)))
     refine ⟨.inr rfl, rfl, (.bool true), K.res1 rfl rfl, [], ?_, hS.pick [5]⟩
     exact rfl
 ·
  replace hS : K.Sat w0 [g_2, fr] w := hS
  refine K.q [.bool true, .bool true] (K.n_ (K.n_ (K.n_ (K.q [.bool true] (K.z (K.t (K.h (K.s (K.g ?_)))))))))
  refine K.l (K.OW.gcall hS [] [0, 1] [] (awake13_ok _) ?_)
  clear hS; rintro _ _ w ⟨rfl, rfl⟩ hS
  replace hS : K.Sat w0 [g_2, fr] w := hS
  refine K.q [.bool true] (K.z (K.t (K.r (K.u ?_))))
  refine ⟨.inr rfl, rfl, (.bool true), K.res1 rfl rfl, [], ?_, hS.pick [1]⟩
  exact rfl
end Go.Proofs.Ytkmndplicmaahaa
