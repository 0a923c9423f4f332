import Derived.Test.YtnehocjmgnhhhaaFnx
import Derived.Test.YtnehocjmgnhhhaaKn
import Derived.Test.YtnehocjmgnhhhaaKf
/- Witness: the search: what may come next, and is it over? -/
namespace Go.Proofs.Ytnehocjmgnhhhaa
open Go.RowKit
set_option linter.unusedVariables false
attribute [local irreducible] K.KW K.RW K.DW K.OW K.QR K.KC
def mayS (L : List CallM) (U : List Bool) (i : Nat) : Prop := (∀ k, k < L.length → ¬ (U.getD k false = false ∧ aheadH (L.getD k call0) (L.getD i call0))) ∧ U.getD i false = false
def overS (L : List CallM) (U : List Bool) : Prop := ∀ k, k < L.length → ¬ (U.getD k false = false ∧ (L.getD k call0).cr = false)
set_option maxHeartbeats 4000000 in
set_option maxRecDepth 100000 in
theorem over_ok (w0 : World) (bx : Nat) (gb gu : K.Cs) (a bu : Option Addr) (cap cu : Nat) (L : List CallM) (U : List Bool) (hm : L.length ≤ 1000000) (hU : U.length = L.length) (hgb : gb = [K.pt bx 85 [.slice a L.length cap, .slice bu U.length cu]]) (hu : K.OwnG gu 4 1 bu U.length cu (U.flatMap cBool)) (gx : K.Cs) (hx : ∀ w, K.Sat w0 [gx] w → K.RowE w a L.length 11 (fun i => cCall (L.getD i call0))) :
  K.GC Try.prog w0 76 #[K.pa bx] [gb, gu, gx] (fun v post => post = [gb, gu, gx] ∧ ((overS L U ∧ v = .bool true) ∨ (¬ (overS L U) ∧ v = .bool false))) := by
 refine K.GC.mk (n := 29) Try.func76 rfl rfl [K.pa bx] rfl rfl ?_
 intro fr w hS
 replace hS : K.Sat w0 [gb, gu, gx, fr] w := hS
 refine K.s (K.g (K.q [.bool false] (K.z (K.t (K.s (K.s (K.g (K.q [K.pa bx, K.pa bx, K.pa bx] ?_))))))))
 refine K.d (.slice a L.length cap) ((hS.blk 0 rfl hgb).cell rfl) ?_
 refine K.a (K.QR.len (P := Try.prog) rfl rfl Try.underlying22) ?_
 refine K.q [K.iv 0] (K.z (K.t ?_))
 refine K.KW.block ?_
 refine K.KW.loop (fun m_ F_ w_ => ∃ (k : Nat), m_ = L.length - k ∧ K.Sl F_ [(0, K.pa bx), (8, .slice a L.length cap), (9, K.iv ((L.length : Nat) : Int)), (10, K.iv ((k : Nat) : Int)), (29, undef)] ∧ k ≤ L.length ∧ (∀ q, q < k → ¬ (U.getD q false = false ∧ (L.getD q call0).cr = false)) ∧ K.Sat w0 [gb, gu, gx, fr] w_) ((fun (k : Nat) => L.length - k) 0) ?_ ?_
 ·
  exact ⟨0, rfl, ⟨by rfl, by rfl, by rfl, by rfl, by rfl, trivial⟩, (by omega), (fun q hq => by omega), hS.pick [0, 1, 2, 3]⟩
 ·
  clear hS
  intro m_1 F_2 w hI
  obtain ⟨k, rfl, sl_3, p_4, hov, hS⟩ := hI
  rw [← K.Sl.puts sl_3]; clear sl_3
  refine K.s (K.g ?_)
  by_cases h_5 : (((k : Nat) : Int) : Int) < (((L.length : Nat) : Int) : Int)
  ·
   refine K.y ((((k : Nat) : Int) : Int) < (((L.length : Nat) : Int) : Int)) h_5 ?_
   refine K.z (K.t (K.s (K.h (K.k (K.t (K.s ?_))))))
   refine K.KW.block ?_
   refine K.s ?_
   obtain ⟨b_6, of_7, rfl, _⟩ := (hx _ (hS.pick [2])).at_ (by omega)
   obtain ⟨b_8, rfl⟩ := hu.some_ (by have := hu.le; omega)
   refine K.g (K.q [K.iv ((k : Nat) : Int)] ?_)
   refine K.a (K.QR.ix (of_7 + k * 11) 11 rfl rfl rfl Try.underlying22 (by kernel_rfl) (by omega) (by first | (simp; done) | omega | (simp; omega))) ?_
   refine K.a (K.QR.ldN [K.iv ((L.getD k call0).th), K.iv ((L.getD k call0).ok), .int .u32 ((L.getD k call0).key), .int .u32 ((L.getD k call0).val), K.iv ((L.getD k call0).rk), .int .u32 ((L.getD k call0).rv), K.iv ((L.getD k call0).beg), K.iv ((L.getD k call0).en), K.iv ((L.getD k call0).wh), .bool ((L.getD k call0).cr), .bool ((L.getD k call0).kp)] rfl rfl (by kernel_rfl) (by kernel_rfl) (K.cells (K.cl ((hx _ (hS.pick [2])).ld k (by omega) 0 _ rfl) (K.cl ((hx _ (hS.pick [2])).ld k (by omega) 1 _ rfl) (K.cl ((hx _ (hS.pick [2])).ld k (by omega) 2 _ rfl) (K.cl ((hx _ (hS.pick [2])).ld k (by omega) 3 _ rfl) (K.cl ((hx _ (hS.pick [2])).ld k (by omega) 4 _ rfl) (K.cl ((hx _ (hS.pick [2])).ld k (by omega) 5 _ rfl) (K.cl ((hx _ (hS.pick [2])).ld k (by omega) 6 _ rfl) (K.cl ((hx _ (hS.pick [2])).ld k (by omega) 7 _ rfl) (K.cl ((hx _ (hS.pick [2])).ld k (by omega) 8 _ rfl) (K.cl ((hx _ (hS.pick [2])).ld k (by omega) 9 _ rfl) (K.cl ((hx _ (hS.pick [2])).ld k (by omega) 10 _ rfl) K.cl0))))))))))))) ?_
   refine K.l (K.OW.gnew 51 [K.iv 0, K.iv 0, .int .u32 0, .int .u32 0, K.iv 0, .int .u32 0, K.iv 0, K.iv 0, K.iv 0, .bool false, .bool false] hS ?_)
   clear hS; intro w r_10 g_11 hg_12 hS
   refine K.q [K.iv ((k : Nat) : Int)] ?_
   refine K.l (K.OW.gst 0 [K.iv ((L.getD k call0).th), K.iv ((L.getD k call0).ok), .int .u32 ((L.getD k call0).key), .int .u32 ((L.getD k call0).val), K.iv ((L.getD k call0).rk), .int .u32 ((L.getD k call0).rv), K.iv ((L.getD k call0).beg), K.iv ((L.getD k call0).en), K.iv ((L.getD k call0).wh), .bool ((L.getD k call0).cr), .bool ((L.getD k call0).kp)] _ hS hg_12 ?_)
   clear hS; intro w g_13 hg_14 hS
   replace hS : K.Sat w0 [g_13, gb, gu, gx, fr] w := hS
   refine K.z (K.t (K.s (K.g (K.q [K.pa bx, K.pa bx, .pointer (some ⟨bx, 1, none⟩)] ?_))))
   refine K.d (.slice (some ⟨b_8, 0, none⟩) U.length cu) ((hS.blk 1 rfl hgb).cell rfl) ?_
   refine K.q [K.iv ((k : Nat) : Int)] ?_
   refine K.a (K.QR.ix k 1 rfl rfl rfl Try.underlying54 (by kernel_rfl) (by omega) (by first | (simp; done) | omega | (simp; omega))) ?_
   refine K.d (.bool (U.getD k false)) (K.Own.atS (c := cBool) (d := false) (fun _ => rfl) (hS.ownr 2 rfl hu) rfl k (by omega)) ?_
   cases hb_15 : U.getD k false
   ·
    refine K.q [.bool true, .bool true, .pointer (some ⟨r_10, 9, none⟩)] ?_
    refine K.d (.bool ((L.getD k call0).cr)) ((hS.blk 0 rfl hg_14).cell rfl) ?_
    cases hb_16 : (L.getD k call0).cr
    ·
     refine K.q [.bool true, .bool true] (K.z (K.t (K.h (K.s (K.g (K.q [.bool false] (K.z (K.t (K.r ?_)))))))))
     refine K.blk_ret ?_
     refine K.u (K.u ?_)
     refine K.blk_ret ?_
     refine K.u ?_
     refine ⟨.inr rfl, rfl, (.bool false), K.res1 rfl rfl, [gb, gu, gx], ?_, hS.pick [1, 2, 3, 4]⟩
     exact ⟨rfl, .inr ⟨fun hh => hh k (by omega) ⟨by assumption, by assumption⟩, rfl⟩⟩
    ·
     refine K.q [.bool false, .bool false] (K.z (K.t (K.f (K.k ?_))))
     refine K.blk_normal ?_
     refine K.t (K.g ?_)
     refine K.a (K.QR.n64 ((((k : Nat) : Int) : Int) + (1 : Int)) ((k + 1 : Nat) : Int) (by kernel_rfl) (by omega)) ?_
     refine K.q [K.iv ((k + 1 : Nat) : Int)] (K.z (K.t ?_))
     refine ⟨_, ?_, k + 1, rfl, ⟨by rfl, by rfl, by rfl, by rfl, by rfl, trivial⟩, (by omega), (K.all_snoc hov (by simp_all)), hS.pick [1, 2, 3, 4]⟩
     omega
   ·
    refine K.q [.bool false, .bool false] (K.n_ (K.n_ (K.n_ (K.q [.bool false] (K.z (K.t (K.f (K.k ?_))))))))
    refine K.blk_normal ?_
    refine K.t (K.g ?_)
    refine K.a (K.QR.n64 ((((k : Nat) : Int) : Int) + (1 : Int)) ((k + 1 : Nat) : Int) (by kernel_rfl) (by omega)) ?_
    refine K.q [K.iv ((k + 1 : Nat) : Int)] (K.z (K.t ?_))
    refine ⟨_, ?_, k + 1, rfl, ⟨by rfl, by rfl, by rfl, by rfl, by rfl, trivial⟩, (by omega), (K.all_snoc hov (by simp_all)), hS.pick [1, 2, 3, 4]⟩
    omega
  ·
   refine K.x ((((k : Nat) : Int) : Int) < (((L.length : Nat) : Int) : Int)) h_5 ?_
   refine K.z (K.t (K.s (K.f ?_)))
   refine K.KW.exit ?_
   refine K.thn_exit ?_
   refine K.thn_exit ?_
   refine K.blk_hit ?_
   refine K.t (K.s (K.g (K.q [.bool true] (K.z (K.t (K.r ?_))))))
   refine ⟨.inr rfl, rfl, (.bool true), K.res1 rfl rfl, [gb, gu, gx], ?_, hS.pick [0, 1, 2, 3]⟩
   exact ⟨rfl, .inl ⟨fun q hq => hov q (by omega), rfl⟩⟩
set_option maxHeartbeats 4000000 in
set_option maxRecDepth 100000 in
theorem smay_ok (w0 : World) (bx : Nat) (gb gu : K.Cs) (a bu : Option Addr) (cap cu : Nat) (L : List CallM) (U : List Bool) (hm : L.length ≤ 1000000) (hU : U.length = L.length) (hgb : gb = [K.pt bx 85 [.slice a L.length cap, .slice bu U.length cu]]) (hu : K.OwnG gu 4 1 bu U.length cu (U.flatMap cBool)) (gx : K.Cs) (hx : ∀ w, K.Sat w0 [gx] w → K.RowE w a L.length 11 (fun i => cCall (L.getD i call0))) (i : Nat) (hi : i < L.length) :
  K.GC Try.prog w0 75 #[K.pa bx, K.iv ((i : Nat) : Int)] [gb, gu, gx] (fun v post => post = [gb, gu, gx] ∧ ((mayS L U i ∧ v = .bool true) ∨ (¬ (mayS L U i) ∧ v = .bool false))) := by
 refine K.GC.mk (n := 45) Try.func75 rfl rfl [K.pa bx, K.iv ((i : Nat) : Int)] rfl rfl ?_
 intro fr w hS
 replace hS : K.Sat w0 [gb, gu, gx, fr] w := hS
 refine K.s (K.g (K.q [.bool false] (K.z (K.t (K.s (K.s (K.g (K.q [K.pa bx, K.pa bx, K.pa bx] ?_))))))))
 refine K.d (.slice a L.length cap) ((hS.blk 0 rfl hgb).cell rfl) ?_
 refine K.a (K.QR.len (P := Try.prog) rfl rfl Try.underlying22) ?_
 refine K.q [K.iv 0] (K.z (K.t ?_))
 refine K.KW.block ?_
 refine K.KW.loop (fun m_ F_ w_ => ∃ (k : Nat), m_ = L.length - k ∧ K.Sl F_ [(0, K.pa bx), (1, K.iv ((i : Nat) : Int)), (10, .slice a L.length cap), (11, K.iv ((L.length : Nat) : Int)), (12, K.iv ((k : Nat) : Int)), (45, undef)] ∧ k ≤ L.length ∧ (∀ q, q < k → ¬ (U.getD q false = false ∧ aheadH (L.getD q call0) (L.getD i call0))) ∧ K.Sat w0 [gb, gu, gx, fr] w_) ((fun (k : Nat) => L.length - k) 0) ?_ ?_
 ·
  exact ⟨0, rfl, ⟨by rfl, by rfl, by rfl, by rfl, by rfl, by rfl, trivial⟩, (by omega), (fun q hq => by omega), hS.pick [0, 1, 2, 3]⟩
 ·
  clear hS
  intro m_1 F_2 w hI
  obtain ⟨k, rfl, sl_3, p_4, hov, hS⟩ := hI
  rw [← K.Sl.puts sl_3]; clear sl_3
  refine K.s ?_
  obtain ⟨b_5, of_6, rfl, _⟩ := (hx _ (hS.pick [2])).at_ (by omega)
  obtain ⟨b_7, rfl⟩ := hu.some_ (by have := hu.le; omega)
  refine K.g ?_
  by_cases h_9 : (((k : Nat) : Int) : Int) < (((L.length : Nat) : Int) : Int)
  ·
   refine K.y ((((k : Nat) : Int) : Int) < (((L.length : Nat) : Int) : Int)) h_9 ?_
   refine K.z (K.t (K.s (K.h (K.k (K.t (K.s ?_))))))
   refine K.KW.block ?_
   refine K.s (K.g (K.q [K.iv ((k : Nat) : Int)] ?_))
   refine K.a (K.QR.ix (of_6 + k * 11) 11 rfl rfl rfl Try.underlying22 (by kernel_rfl) (by omega) (by first | (simp; done) | omega | (simp; omega))) ?_
   refine K.a (K.QR.ldN [K.iv ((L.getD k call0).th), K.iv ((L.getD k call0).ok), .int .u32 ((L.getD k call0).key), .int .u32 ((L.getD k call0).val), K.iv ((L.getD k call0).rk), .int .u32 ((L.getD k call0).rv), K.iv ((L.getD k call0).beg), K.iv ((L.getD k call0).en), K.iv ((L.getD k call0).wh), .bool ((L.getD k call0).cr), .bool ((L.getD k call0).kp)] rfl rfl (by kernel_rfl) (by kernel_rfl) (K.cells (K.cl ((hx _ (hS.pick [2])).ld k (by omega) 0 _ rfl) (K.cl ((hx _ (hS.pick [2])).ld k (by omega) 1 _ rfl) (K.cl ((hx _ (hS.pick [2])).ld k (by omega) 2 _ rfl) (K.cl ((hx _ (hS.pick [2])).ld k (by omega) 3 _ rfl) (K.cl ((hx _ (hS.pick [2])).ld k (by omega) 4 _ rfl) (K.cl ((hx _ (hS.pick [2])).ld k (by omega) 5 _ rfl) (K.cl ((hx _ (hS.pick [2])).ld k (by omega) 6 _ rfl) (K.cl ((hx _ (hS.pick [2])).ld k (by omega) 7 _ rfl) (K.cl ((hx _ (hS.pick [2])).ld k (by omega) 8 _ rfl) (K.cl ((hx _ (hS.pick [2])).ld k (by omega) 9 _ rfl) (K.cl ((hx _ (hS.pick [2])).ld k (by omega) 10 _ rfl) K.cl0))))))))))))) ?_
   refine K.l (K.OW.gnew 51 [K.iv 0, K.iv 0, .int .u32 0, .int .u32 0, K.iv 0, .int .u32 0, K.iv 0, K.iv 0, K.iv 0, .bool false, .bool false] hS ?_)
   clear hS; intro w r_10 g_11 hg_12 hS
   refine K.q [K.iv ((k : Nat) : Int)] ?_
   refine K.l (K.OW.gst 0 [K.iv ((L.getD k call0).th), K.iv ((L.getD k call0).ok), .int .u32 ((L.getD k call0).key), .int .u32 ((L.getD k call0).val), K.iv ((L.getD k call0).rk), .int .u32 ((L.getD k call0).rv), K.iv ((L.getD k call0).beg), K.iv ((L.getD k call0).en), K.iv ((L.getD k call0).wh), .bool ((L.getD k call0).cr), .bool ((L.getD k call0).kp)] _ hS hg_12 ?_)
   clear hS; intro w g_13 hg_14 hS
   replace hS : K.Sat w0 [g_13, gb, gu, gx, fr] w := hS
   refine K.z (K.t (K.s ?_))
   refine K.KW.gdrawn [0, 1] hS (by kernel_rfl) ?_
   clear hS; intro w hS
   refine K.p 0 rfl (K.pa bx) (hS.pick [0, 1]) ?_
   refine K.p 1 rfl (K.pa bx) (hS.pick [0, 1]) ?_
   refine K.p 2 rfl (.pointer (some ⟨bx, 1, none⟩)) (hS.pick [0, 1]) ?_
   refine K.o_ 3 rfl (.slice (some ⟨b_7, 0, none⟩) U.length cu) (fun w hS => ((hS.blk 1 rfl hgb).cell rfl)) (hS.pick [0, 1]) ?_
   refine K.b 4 rfl (K.iv ((k : Nat) : Int)) (hS.pick [0, 1]) ?_
   refine K.c 5 rfl (K.QR.ix k 1 rfl rfl rfl Try.underlying54 (by kernel_rfl) (by omega) (by first | (simp; done) | omega | (simp; omega))) (hS.pick [0, 1]) ?_
   refine K.c 6 rfl (K.QR.ld1 (v := .bool (U.getD k false)) rfl rfl (by kernel_rfl) (K.Own.atS (c := cBool) (d := false) (fun _ => rfl) (hS.ownr 2 rfl hu) rfl k (by omega))) (hS.pick [0, 1]) ?_
   cases hb_15 : U.getD k false
   ·
    refine K.b 7 rfl (.bool true) (hS.pick [0, 1]) ?_
    refine K.b 8 rfl (.bool true) (hS.pick [0, 1]) ?_
    refine K.m 9 rfl (fun w hS => K.QR.ldN [K.iv ((L.getD k call0).th), K.iv ((L.getD k call0).ok), .int .u32 ((L.getD k call0).key), .int .u32 ((L.getD k call0).val), K.iv ((L.getD k call0).rk), .int .u32 ((L.getD k call0).rv), K.iv ((L.getD k call0).beg), K.iv ((L.getD k call0).en), K.iv ((L.getD k call0).wh), .bool ((L.getD k call0).cr), .bool ((L.getD k call0).kp)] rfl rfl (by kernel_rfl) (by kernel_rfl) (K.cells (K.cl ((hS.blk 0 rfl hg_14).cell rfl) (K.cl ((hS.blk 0 rfl hg_14).cell rfl) (K.cl ((hS.blk 0 rfl hg_14).cell rfl) (K.cl ((hS.blk 0 rfl hg_14).cell rfl) (K.cl ((hS.blk 0 rfl hg_14).cell rfl) (K.cl ((hS.blk 0 rfl hg_14).cell rfl) (K.cl ((hS.blk 0 rfl hg_14).cell rfl) (K.cl ((hS.blk 0 rfl hg_14).cell rfl) (K.cl ((hS.blk 0 rfl hg_14).cell rfl) (K.cl ((hS.blk 0 rfl hg_14).cell rfl) (K.cl ((hS.blk 0 rfl hg_14).cell rfl) K.cl0))))))))))))) (hS.pick [0, 1]) ?_
    refine K.p 10 rfl (K.pa bx) (hS.pick [0, 1]) ?_
    refine K.p 11 rfl (K.pa bx) (hS.pick [0, 1]) ?_
    refine K.p 12 rfl (K.pa bx) (hS.pick [0, 1]) ?_
    refine K.o_ 13 rfl (.slice (some ⟨b_5, of_6, none⟩) L.length cap) (fun w hS => ((hS.blk 1 rfl hgb).cell rfl)) (hS.pick [0, 1]) ?_
    refine K.b 14 rfl (K.iv ((i : Nat) : Int)) (hS.pick [0, 1]) ?_
    refine K.c 15 rfl (K.QR.ix (of_6 + i * 11) 11 rfl rfl rfl Try.underlying22 (by kernel_rfl) (by omega) (by first | (simp; done) | omega | (simp; omega))) (hS.pick [0, 1]) ?_
    refine K.c 16 rfl (K.QR.ldN [K.iv ((L.getD i call0).th), K.iv ((L.getD i call0).ok), .int .u32 ((L.getD i call0).key), .int .u32 ((L.getD i call0).val), K.iv ((L.getD i call0).rk), .int .u32 ((L.getD i call0).rv), K.iv ((L.getD i call0).beg), K.iv ((L.getD i call0).en), K.iv ((L.getD i call0).wh), .bool ((L.getD i call0).cr), .bool ((L.getD i call0).kp)] rfl rfl (by kernel_rfl) (by kernel_rfl) (K.cells (K.cl ((hx _ (hS.pick [3])).ld i (by omega) 0 _ rfl) (K.cl ((hx _ (hS.pick [3])).ld i (by omega) 1 _ rfl) (K.cl ((hx _ (hS.pick [3])).ld i (by omega) 2 _ rfl) (K.cl ((hx _ (hS.pick [3])).ld i (by omega) 3 _ rfl) (K.cl ((hx _ (hS.pick [3])).ld i (by omega) 4 _ rfl) (K.cl ((hx _ (hS.pick [3])).ld i (by omega) 5 _ rfl) (K.cl ((hx _ (hS.pick [3])).ld i (by omega) 6 _ rfl) (K.cl ((hx _ (hS.pick [3])).ld i (by omega) 7 _ rfl) (K.cl ((hx _ (hS.pick [3])).ld i (by omega) 8 _ rfl) (K.cl ((hx _ (hS.pick [3])).ld i (by omega) 9 _ rfl) (K.cl ((hx _ (hS.pick [3])).ld i (by omega) 10 _ rfl) K.cl0))))))))))))) (hS.pick [0, 1]) ?_
    refine K.DW.l 17 rfl (by kernel_rfl) (by kernel_rfl) (K.OW.gcall hS [] [0, 1, 2, 3, 4] [.agg #[K.iv ((L.getD k call0).th), K.iv ((L.getD k call0).ok), .int .u32 ((L.getD k call0).key), .int .u32 ((L.getD k call0).val), K.iv ((L.getD k call0).rk), .int .u32 ((L.getD k call0).rv), K.iv ((L.getD k call0).beg), K.iv ((L.getD k call0).en), K.iv ((L.getD k call0).wh), .bool ((L.getD k call0).cr), .bool ((L.getD k call0).kp)], .agg #[K.iv ((L.getD i call0).th), K.iv ((L.getD i call0).ok), .int .u32 ((L.getD i call0).key), .int .u32 ((L.getD i call0).val), K.iv ((L.getD i call0).rk), .int .u32 ((L.getD i call0).rv), K.iv ((L.getD i call0).beg), K.iv ((L.getD i call0).en), K.iv ((L.getD i call0).wh), .bool ((L.getD i call0).cr), .bool ((L.getD i call0).kp)]] (ahead_ok _ (L.getD k call0) (L.getD i call0)) ?_)
    clear hS; rintro _ _ w ⟨rfl, (⟨h_16, rfl⟩ | ⟨h_17, rfl⟩)⟩ hS
    ·
     replace hS : K.Sat w0 [g_13, gb, gu, gx, fr] w := hS
     refine ⟨.inl (hS.pick [0, 1]), ?_⟩
     refine K.b 18 rfl (.bool true) (hS.pick [0, 1]) ?_
     refine K.DW.done (by kernel_rfl) ?_
     refine K.t (K.h (K.s (K.g (K.q [.bool false] (K.z (K.t (K.r ?_)))))))
     refine K.blk_ret ?_
     refine K.u (K.u ?_)
     refine K.blk_ret ?_
     refine K.u ?_
     refine ⟨.inr rfl, rfl, (.bool false), K.res1 rfl rfl, [gb, gu, gx], ?_, hS.pick [1, 2, 3, 4]⟩
     exact ⟨rfl, .inr ⟨fun hh => hh.1 k (by omega) ⟨by assumption, h_16⟩, rfl⟩⟩
    ·
     replace hS : K.Sat w0 [g_13, gb, gu, gx, fr] w := hS
     refine ⟨.inl (hS.pick [0, 1]), ?_⟩
     refine K.b 18 rfl (.bool false) (hS.pick [0, 1]) ?_
     refine K.DW.done (by kernel_rfl) ?_
     refine K.t (K.f (K.k ?_))
     refine K.blk_normal ?_
     refine K.t (K.g ?_)
     refine K.a (K.QR.n64 ((((k : Nat) : Int) : Int) + (1 : Int)) ((k + 1 : Nat) : Int) (by kernel_rfl) (by omega)) ?_
     refine K.q [K.iv ((k + 1 : Nat) : Int)] (K.z (K.t ?_))
     refine ⟨_, ?_, k + 1, rfl, ⟨by rfl, by rfl, by rfl, by rfl, by rfl, by rfl, trivial⟩, (by omega), (K.all_snoc hov (fun hh => absurd hh.2 h_17)), hS.pick [1, 2, 3, 4]⟩
     omega
   ·
    refine K.b 7 rfl (.bool false) (hS.pick [0, 1]) ?_
    refine K.b 8 rfl (.bool false) (hS.pick [0, 1]) ?_
    refine K.w_ 9 rfl (hS.pick [0, 1]) ?_
    refine K.w_ 10 rfl (hS.pick [0, 1]) ?_
    refine K.w_ 11 rfl (hS.pick [0, 1]) ?_
    refine K.w_ 12 rfl (hS.pick [0, 1]) ?_
    refine K.w_ 13 rfl (hS.pick [0, 1]) ?_
    refine K.w_ 14 rfl (hS.pick [0, 1]) ?_
    refine K.w_ 15 rfl (hS.pick [0, 1]) ?_
    refine K.w_ 16 rfl (hS.pick [0, 1]) ?_
    refine K.w_ 17 rfl (hS.pick [0, 1]) ?_
    refine K.b 18 rfl (.bool false) (hS.pick [0, 1]) ?_
    refine K.DW.done (by kernel_rfl) ?_
    refine K.t (K.f (K.k ?_))
    refine K.blk_normal ?_
    refine K.t (K.g ?_)
    refine K.a (K.QR.n64 ((((k : Nat) : Int) : Int) + (1 : Int)) ((k + 1 : Nat) : Int) (by kernel_rfl) (by omega)) ?_
    refine K.q [K.iv ((k + 1 : Nat) : Int)] (K.z (K.t ?_))
    refine ⟨_, ?_, k + 1, rfl, ⟨by rfl, by rfl, by rfl, by rfl, by rfl, by rfl, trivial⟩, (by omega), (K.all_snoc hov (by simp_all)), hS.pick [1, 2, 3, 4]⟩
    omega
  ·
   refine K.x ((((k : Nat) : Int) : Int) < (((L.length : Nat) : Int) : Int)) h_9 ?_
   refine K.z (K.t (K.s (K.f ?_)))
   refine K.KW.exit ?_
   refine K.thn_exit ?_
   refine K.thn_exit ?_
   refine K.blk_hit ?_
   refine K.t (K.s (K.g (K.q [K.pa bx, K.pa bx, .pointer (some ⟨bx, 1, none⟩)] ?_)))
   refine K.d (.slice (some ⟨b_7, 0, none⟩) U.length cu) ((hS.blk 0 rfl hgb).cell rfl) ?_
   refine K.q [K.iv ((i : Nat) : Int)] ?_
   refine K.a (K.QR.ix i 1 rfl rfl rfl Try.underlying54 (by kernel_rfl) (by omega) (by first | (simp; done) | omega | (simp; omega))) ?_
   refine K.d (.bool (U.getD i false)) (K.Own.atS (c := cBool) (d := false) (fun _ => rfl) (hS.ownr 1 rfl hu) rfl i (by omega)) ?_
   cases hb_18 : U.getD i false
   ·
    refine K.q [.bool true, .bool true] (K.z (K.t (K.r ?_)))
    refine ⟨.inr rfl, rfl, (.bool true), K.res1 rfl rfl, [gb, gu, gx], ?_, hS.pick [0, 1, 2, 3]⟩
    exact ⟨rfl, .inl ⟨⟨fun q hq => hov q (by omega), by assumption⟩, rfl⟩⟩
   ·
    refine K.q [.bool false, .bool false] (K.z (K.t (K.r ?_)))
    refine ⟨.inr rfl, rfl, (.bool false), K.res1 rfl rfl, [gb, gu, gx], ?_, hS.pick [0, 1, 2, 3]⟩
    exact ⟨rfl, .inr ⟨fun hh => by have := hh.2; simp_all, rfl⟩⟩
end Go.Proofs.Ytnehocjmgnhhhaa

/- Witness: the search: plain. -/
namespace Go.Proofs.Ytnehocjmgnhhhaa
open Go.RowKit
set_option linter.unusedVariables false
attribute [local irreducible] K.KW K.RW K.DW K.OW K.QR K.KC
instance (a b : CallM) : Decidable (aheadH a b) := inferInstanceAs (Decidable (_ ∧ _))
instance (L : List CallM) (U : List Bool) (i : Nat) : Decidable (mayS L U i) := inferInstanceAs (Decidable (_ ∧ _))
instance (L : List CallM) (U : List Bool) : Decidable (overS L U) := inferInstanceAs (Decidable (∀ k, k < L.length → ¬ (U.getD k false = false ∧ (L.getD k call0).cr = false)))
def goS (L : List CallM) (S : StM) (U : List Bool) (i : Nat) : Prop := mayS L U i ∧ (nxtT S (L.getD i call0)).2 = true ∧ ¬ ((L.getD i call0).cr = true ∧ (L.getD i call0).wh = -1)
instance (L : List CallM) (S : StM) (U : List Bool) (i : Nat) : Decidable (goS L S U i) := inferInstanceAs (Decidable (_ ∧ _))
def endsN (L : List CallM) : Nat → StM → List Bool → List StM
 | 0, _, _ => []
 | f + 1, S, U => ((List.range L.length).flatMap fun i => if goS L S U i then endsN L f (nxtT S (L.getD i call0)).1 (U.set i true) else []) ++ if overS L U then [S] else []
def endsI (L : List CallM) (f : Nat) (S : StM) (U : List Bool) (j : Nat) : List StM := (List.range j).flatMap fun i => if goS L S U i then endsN L f (nxtT S (L.getD i call0)).1 (U.set i true) else []
theorem endsI_y {L : List CallM} {f : Nat} {S : StM} {U : List Bool} {j : Nat} (h : goS L S U j) : endsI L f S U (j + 1) = endsI L f S U j ++ endsN L f (nxtT S (L.getD j call0)).1 (U.set j true) := by
 unfold endsI; rw [List.range_succ, List.flatMap_append]; simp [h]
theorem endsI_n {L : List CallM} {f : Nat} {S : StM} {U : List Bool} {j : Nat} (h : ¬ goS L S U j) : endsI L f S U (j + 1) = endsI L f S U j := by
 unfold endsI; rw [List.range_succ, List.flatMap_append]; simp [h]
theorem ends_over {L : List CallM} {f : Nat} {S : StM} {U : List Bool} (h : overS L U) : endsN L (f + 1) S U = endsI L f S U L.length ++ [S] := by
 show _ ++ (if overS L U then [S] else []) = _
 rw [if_pos h]; rfl
theorem ends_open {L : List CallM} {f : Nat} {S : StM} {U : List Bool} (h : ¬ overS L U) : endsN L (f + 1) S U = endsI L f S U L.length := by
 show _ ++ (if overS L U then [S] else []) = _
 rw [if_neg h, List.append_nil]; rfl
theorem count_set {U : List Bool} : ∀ {i : Nat}, i < U.length → U.getD i false = false → (U.set i true).count false + 1 = U.count false := by
 induction U with
 | nil => intro i h; simp at h
 | cons a r ih =>
  intro i hi h
  cases i with
  | zero =>
   have h : a = false := h
   subst h; simp
  | succ i =>
   have := ih (i := i) (by simpa using hi) (by simpa using h)
   rw [List.set_cons_succ, List.count_cons, List.count_cons]; omega
theorem set_back {U : List Bool} {i : Nat} (hi : i < U.length) (h : U.getD i false = false) : (U.set i true).set i false = U := by
 rw [List.set_set]
 refine List.ext_getElem (by simp) fun j h1 h2 => ?_
 rw [List.getElem_set]
 split
 ·rename_i e; subst e
  simpa [hi] using h.symm
 ·rfl
theorem goodS.nxt {k : Nat} {S : StM} {c : CallM} (h : goodS k S) : goodS (k + 1) (nxtT S c).1 := by
 unfold nxtT
 split
 ·unfold alwT
  split
  ·exact h.le (by omega)
  ·split
   ·exact h.apply
   ·split
    ·exact h.le (by omega)
    ·exact h.le (by omega)
 ·exact h.apply
theorem endsI_pre {L : List CallM} {f : Nat} {S : StM} {U : List Bool} {i j : Nat} (h : i ≤ j) : endsI L f S U i <+: endsI L f S U j := by
 unfold endsI
 obtain ⟨d, rfl⟩ : ∃ d, j = i + d := ⟨j - i, by omega⟩
 rw [List.range_add, List.flatMap_append]
 exact List.prefix_append _ _
theorem ends_pre {L : List CallM} {f : Nat} {S : StM} {U : List Bool} : endsI L f S U L.length <+: endsN L (f + 1) S U := List.prefix_append _ _
theorem pre_in {L : List CallM} {f : Nat} {S : StM} {U : List Bool} {done Dt : List StM} {j : Nat} (hp : (done ++ endsN L (f + 1) S U) <+: Dt) (hj : j < L.length) (h : goS L S U j) : ((done ++ endsI L f S U j) ++ endsN L f (nxtT S (L.getD j call0)).1 (U.set j true)) <+: Dt := by
 rw [List.append_assoc, ← endsI_y h]
 exact ((List.prefix_append_right_inj done).2 ((endsI_pre hj).trans ends_pre)).trans hp
def YldS (P : Program) (w0 : World) (l : Nat) (Dt : List StM) (J : List StM → K.Cs → K.Cs → Prop) (E : K.Cs → K.Cs → Prop) : Prop :=
 ∀ (done : List StM) (g m : K.Cs) (q s mm : Option Addr) (cq cs cm : Nat) (S : StM), J done g m → RdSt w0 g q s mm cq S → goodS 1000000 S → (done ++ [S]) <+: Dt →
  K.YGb P w0 l [stA q cq s cs mm cm S] [g, m].flatten (fun b M' => (b = true ∧ ∃ m', M' = [g, m'].flatten ∧ J (done ++ [S]) g m') ∨ (b = false ∧ ∃ m', M' = [g, m'].flatten ∧ E g m'))
def JGrow (w0 : World) (J : K.Cs → K.Cs → Prop) : Prop := ∀ g g' m, J g m → Grow w0 g g' → J g' m
def TryR (w0 : World) (bu : Option Addr) (cu : Nat) (U : List Bool) (gb gx g : K.Cs) (J : List StM → K.Cs → K.Cs → Prop) (E : K.Cs → K.Cs → Prop) (D : List StM) (v : Value) (post : List K.Cs) : Prop :=
 ∃ gu' g' m', post = [gb, gu', gx, g', m'] ∧ K.OwnG gu' 4 1 bu U.length cu (U.flatMap cBool) ∧ Grow w0 g g' ∧ ((v = .bool true ∧ J D g' m') ∨ (v = .bool false ∧ E g' m'))
end Go.Proofs.Ytnehocjmgnhhhaa

/- A region that may yield: an operation that is not wanted. -/
namespace Go.Proofs.Ytnehocjmgnhhhaa
open Go.RowKit
set_option linter.unusedVariables false
namespace K
section
variable {P : Program} {n : Nat} {Q : Exit → Fr → World → Prop} {F : Fr} {w : World}
theorem RY.skip {ops : Array Oper} {o : Oper} {rest : List Oper} {d : Option Nat} (hd : o.dst = d) (hg : gs ops n F o = true) (h : RY P n ops rest Q (updo F d undef) w) (ha : o.about P w (ev n F) = none := by rfl) : RY P n ops (o :: rest) Q F w := by
  subst hd
  obtain ⟨hg, hok⟩ := gs_spec hg
  unfold RY
  refine wpListIn_skip ?_ ?_ ?_
  · rw [wanted_fr]; exact hg
  · rw [eval_fr]; exact ha
  · rw [put_fr _ _ _ _ hok]; exact h
end
end K
end Go.Proofs.Ytnehocjmgnhhhaa
