import Derived.Test.YtnehocjmgnhhhaaFo
import Derived.Test.YtnehocjmgnhhhaaKn
/- Witness: both Orders. -/
namespace Go.Proofs.Ytnehocjmgnhhhaa
open Go.RowKit
set_option linter.unusedVariables false
attribute [local irreducible] K.KW K.RW K.DW K.OW K.QR K.KC
set_option maxHeartbeats 1000000 in
set_option maxRecDepth 100000 in
theorem sortst_ok (w0 : World) (dp : Option Addr) (cp nn : Nat) (P : List Int) (hnn : P.length = nn) (gd : K.Cs) (hd : K.OwnG gd 3 1 dp nn cp (P.flatMap cI64)) (hP1 : nn ≤ 1000000) (bc : Nat) (gc : K.Cs) (a : Option Addr) (cap : Nat) (L : List CallM) (hm : L.length ≤ 1000000) (hgc : gc = [K.pt bc 22 [.slice a L.length cap]]) (gx : K.Cs) (hx : ∀ w, K.Sat w0 [gx] w → K.RowE w a L.length 11 (fun i => cCall (L.getD i call0))) (hv : valP L P) (hst : stbP L P) :
  K.GC Try.prog w0 23 #[.slice dp nn cp, .func (.func 24) [].toArray [.pointer (some ⟨bc, 0, none⟩)].toArray] [gd, gc, gx] (fun v post => ∃ gd' Q, post = [gd', gc, gx] ∧ K.OwnG gd' 3 1 dp nn cp (Q.flatMap cI64) ∧ keepP L P Q 0 nn ∧ srtP L Q 0 nn) := by
 refine K.GC.mk (n := 9) Try.func23 rfl rfl [.slice dp nn cp, .func (.func 24) [].toArray [.pointer (some ⟨bc, 0, none⟩)].toArray] rfl rfl ?_
 intro fr w hS
 replace hS : K.Sat w0 [gd, gc, gx, fr] w := hS
 refine K.g (K.q [.slice dp nn cp, .slice dp nn cp] ?_)
 refine K.a (K.QR.len (P := Try.prog) rfl rfl Try.underlying23) ?_
 refine K.q [.func (.func 24) [].toArray [.pointer (some ⟨bc, 0, none⟩)].toArray] ?_
 refine K.l (K.OW.gcall hS [0, 1, 2] [3] [.slice dp nn cp, .int .i64 ((nn : Nat) : Int), .func (.func 24) [].toArray [.pointer (some ⟨bc, 0, none⟩)].toArray] (stable_ok _ dp cp _ P hnn _ hd (by omega) _ _ _ _ _ hm hgc _ hx hv hst) ?_)
 clear hS; rintro _ _ w ⟨gd_1, Q_2, rfl, ho_3, hr_4, hs_5⟩ hS
 replace hS : K.Sat w0 [gd_1, gc, gx, fr] w := hS
 refine K.z ?_
 refine ⟨.inl rfl, rfl, (.tuple #[]), K.res0 rfl, [gd_1, gc, gx], ?_, hS.pick [0, 1, 2, 3]⟩
 exact ⟨_, _, rfl, ho_3, hr_4, hs_5⟩
set_option maxHeartbeats 1000000 in
set_option maxRecDepth 100000 in
theorem order_ok (w0 : World) (a : Option Addr) (cap : Nat) (L : List CallM) (hm : L.length ≤ 1000000) (gx : K.Cs) (hx : ∀ w, K.Sat w0 [gx] w → K.RowE w a L.length 11 (fun i => cCall (L.getD i call0))) :
  K.GC Try.prog w0 8 #[.slice a L.length cap] [gx] (fun v post => ∃ r g k Q, post = [gx, g] ∧ v = .slice r Q.length k ∧ K.OwnG g 3 1 r Q.length k (Q.flatMap cI64) ∧ isOrd L Q ∧ Q.length ≤ L.length) := by
 refine K.GC.mk (n := 10) Try.func8 rfl rfl [.slice a L.length cap] rfl rfl ?_
 intro fr w hS
 replace hS : K.Sat w0 [gx, fr] w := hS
 have htl := tookU_len L L.length
 have htl2 : (tookT L).length = (tookU L L.length).length := rfl
 refine K.s (K.g ?_)
 refine K.l (K.OW.gnew 22 [.slice a L.length cap] hS ?_)
 clear hS; intro w r_1 g_2 hg_3 hS
 refine K.q [.slice none 0 0] (K.z (K.t (K.s (K.g ?_))))
 refine K.d (.slice a L.length cap) ((hS.blk 0 rfl hg_3).cell rfl) ?_
 refine K.l (K.OW.gcall hS [1] [0, 2] [.slice a L.length cap] (took_ok _ _ _ L (by omega) _ hx) ?_)
 clear hS; rintro _ _ w ⟨r_4, g_5, k_6, rfl, rfl, o_7⟩ hS
 replace hS : K.Sat w0 [gx, g_5, g_2, fr] w := hS
 refine K.q [.slice r_4 ((tookT L).length) k_6] (K.z (K.t (K.s (K.g (K.q [.slice r_4 ((tookT L).length) k_6] ?_)))))
 refine K.a (K.QR.fn [] [.pointer (some ⟨r_1, 0, none⟩)] rfl rfl rfl) ?_
 refine K.l (K.OW.gcall hS [1, 2, 0] [3] [.slice r_4 ((tookT L).length) k_6, .func (.func 24) [].toArray [.pointer (some ⟨r_1, 0, none⟩)].toArray] (sortst_ok _ r_4 k_6 _ (tookT L) rfl _ o_7 (by omega) _ _ _ _ _ hm hg_3 _ hx (took_val L) (took_stb L)) ?_)
 clear hS; rintro _ _ w ⟨gd_8, Q_9, rfl, ho_10, hr_11, hs_12⟩ hS
 replace hS : K.Sat w0 [gd_8, g_2, gx, fr] w := hS
 refine K.z (K.t (K.s (K.g (K.q [.slice r_4 ((tookT L).length) k_6, .slice r_4 ((tookT L).length) k_6] (K.z (K.t (K.r ?_)))))))
 refine ⟨.inr rfl, rfl, (.slice r_4 ((tookT L).length) k_6), K.res1 rfl rfl, [gx, gd_8], ?_, hS.pick [2, 0, 3]⟩
 have hql : Q_9.length = (tookT L).length := hr_11.1
 exact ⟨_, _, _, _, rfl, by rw [hql], by rw [hql]; exact ho_10, isOrd.of rfl hr_11 hs_12, by omega⟩
set_option maxHeartbeats 16000000 in
set_option maxRecDepth 100000 in
theorem dorder_ok (w0 : World) (a : Option Addr) (cap : Nat) (L : List CallM) (hm : L.length ≤ 1000000) (gx : K.Cs) (hx : ∀ w, K.Sat w0 [gx] w → K.RowE w a L.length 11 (fun i => cCall (L.getD i call0))) :
  K.GC Try.prog w0 9 #[.slice a L.length cap] [gx] (fun v post => ∃ r g k Q, post = [gx, g] ∧ v = .slice r Q.length k ∧ K.OwnG g 3 1 r Q.length k (Q.flatMap cI64) ∧ isOrd L Q ∧ Q.length ≤ L.length) := by
 refine K.GC.mk (n := 73) Try.func9 rfl rfl [.slice a L.length cap] rfl rfl ?_
 intro fr w hS
 replace hS : K.Sat w0 [gx, fr] w := hS
 refine K.s (K.g (K.q [.slice none 0 0] (K.z (K.t (K.s (K.g (K.q [.slice none 0 0] (K.z (K.t (K.s (K.g (K.q [.slice a L.length cap] ?_))))))))))))
 refine K.a (K.QR.len (P := Try.prog) rfl rfl Try.underlying22) ?_
 refine K.l (K.OW.gmk (P := Try.prog) (m := L.length) (cc := cBool) (z := .bool false) (size := 1) (bytes := 1) (false : Bool) hS ?_ Try.underlying54 (by kernel_rfl) rfl rfl (by unfold maxLen; omega) (by omega))
 clear hS; intro w r_1 l_2 o_3 hS
 refine K.q [.slice (some ⟨r_1, 0, none⟩) L.length L.length] (K.z (K.t (K.s (K.s (K.g (K.q [.int .i64 0] (K.z (K.t ?_))))))))
 refine K.KW.block ?_
 obtain ⟨z_4, hz_5⟩ : ∃ z : K.Cs, z = [] := ⟨_, rfl⟩
 replace hS : K.Sat w0 [z_4, l_2, gx, fr] w := hS.of (by simp [hz_5])
 have o_6 : K.OwnG z_4 3 1 none 0 0 [] := by rw [hz_5]; exact K.OwnG.nil _ _
 refine K.KW.loop (fun m_ F_ w_ => ∃ (n : Nat) (o : List Int) (U : List Bool) (q1 : Option Addr) (c1 : Nat) (o1 : K.Cs) (u1 : K.Cs), m_ = L.length - n ∧ K.Sl F_ [(0, .slice a L.length cap), (2, .slice none 0 0), (3, .slice q1 o.length c1), (4, .slice (some ⟨r_1, 0, none⟩) L.length L.length), (5, .int .i64 ((n : Nat) : Int)), (73, undef)] ∧ n ≤ L.length ∧ (o.length ≤ n) ∧ dOrd L U o n ∧ K.OwnG o1 3 1 q1 o.length c1 ((o).flatMap cI64) ∧ K.OwnG u1 4 1 (some ⟨r_1, 0, none⟩) L.length L.length ((U).flatMap cBool) ∧ K.Sat w0 [o1, u1, gx, fr] w_) ((fun (n : Nat) (o : List Int) (U : List Bool) (q1 : Option Addr) (c1 : Nat) => L.length - n) 0 [] (List.replicate L.length false) none 0) ?_ ?_
 ·
  exact ⟨0, [], (List.replicate L.length false), none, 0, z_4, l_2, rfl, ⟨by rfl, by rfl, by rfl, by rfl, by rfl, by rfl, trivial⟩, (by omega), (by simp), (dOrd.nil), o_6, o_3, hS.pick [0, 1, 2, 3]⟩
 ·
  clear hS
  intro m_7 F_8 w hI
  obtain ⟨n, o, U, q1, c1, o1, u1, rfl, sl_9, p_10, p_11, hdo, x_12, x_13, hS⟩ := hI
  rw [← K.Sl.puts sl_9]; clear sl_9
  refine K.s (K.s (K.g (K.q [.int .i64 ((n : Nat) : Int), .slice a L.length cap] ?_)))
  refine K.a (K.QR.len (P := Try.prog) rfl rfl Try.underlying22) ?_
  by_cases h_14 : (((n : Nat) : Int) : Int) < (((L.length : Nat) : Int) : Int)
  ·
   refine K.y ((((n : Nat) : Int) : Int) < (((L.length : Nat) : Int) : Int)) h_14 ?_
   refine K.z (K.t (K.h (K.k (K.t (K.s ?_)))))
   refine K.KW.block ?_
   refine K.s (K.g (K.q [.int .i64 (-1)] (K.z (K.t (K.s (K.s (K.g (K.q [.int .i64 0] (K.z (K.t ?_))))))))))
   refine K.KW.block ?_
   refine K.KW.loop (fun m_ F_ w_ => ∃ (i : Nat) (b : Int), m_ = L.length - i ∧ K.Sl F_ [(0, .slice a L.length cap), (2, .slice none 0 0), (3, .slice q1 o.length c1), (4, .slice (some ⟨r_1, 0, none⟩) L.length L.length), (5, .int .i64 ((n : Nat) : Int)), (6, .int .i64 b), (7, .int .i64 ((i : Nat) : Int)), (73, undef)] ∧ i ≤ L.length ∧ bstI L U i b ∧ K.Sat w0 [o1, u1, gx, fr] w_) ((fun (i : Nat) (b : Int) => L.length - i) 0 (-1)) ?_ ?_
   ·
    exact ⟨0, (-1), rfl, ⟨by rfl, by rfl, by rfl, by rfl, by rfl, by rfl, by rfl, by rfl, trivial⟩, (by omega), (bstI.nil), hS.pick [0, 1, 2, 3]⟩
   ·
    clear hS
    intro m_15 F_16 w hI
    obtain ⟨i, b, rfl, sl_17, p_18, hbi, hS⟩ := hI
    rw [← K.Sl.puts sl_17]; clear sl_17
    refine K.s (K.s (K.g (K.q [.int .i64 ((i : Nat) : Int), .slice a L.length cap] ?_)))
    refine K.a (K.QR.len (P := Try.prog) rfl rfl Try.underlying22) ?_
    by_cases h_19 : (((i : Nat) : Int) : Int) < (((L.length : Nat) : Int) : Int)
    ·
     refine K.y ((((i : Nat) : Int) : Int) < (((L.length : Nat) : Int) : Int)) h_19 ?_
     refine K.z (K.t (K.h (K.k (K.t (K.s ?_)))))
     refine K.KW.block ?_
     refine K.s ?_
     have hbv : b < 0 ∨ (0 ≤ b ∧ b < (i : Int) ∧ b.toNat < L.length) := by rcases hbi with ⟨e, _⟩ | ⟨e1, e2, _⟩ <;> omega
     have hul := hdo.len
     obtain ⟨b_20, of_21, rfl, _⟩ := (hx _ (hS.pick [2])).at_ (by omega)
     refine K.g (K.q [.slice (some ⟨b_20, of_21, none⟩) L.length cap, .int .i64 ((i : Nat) : Int)] ?_)
     refine K.a (K.QR.ix (of_21 + i * 11) 11 rfl rfl rfl Try.underlying22 (by kernel_rfl) (by omega) (by first | (simp; done) | omega | (simp; omega))) ?_
     refine K.q [.pointer (some ⟨b_20, of_21 + i * 11 + 9, none⟩)] ?_
     refine K.d (.bool ((L.getD i call0).cr)) ((hx _ (hS.pick [2])).ld i (by omega) 9 _ rfl) ?_
     cases hb_22 : (L.getD i call0).cr
     ·
      refine K.q [.bool true, .bool true] (K.n_ (K.n_ (K.n_ (K.n_ (K.n_ (K.q [.bool true, .bool true] (K.z (K.t (K.s ?_)))))))))
      refine K.KW.gdrawn [2] hS (by kernel_rfl) ?_
      clear hS; intro w hS
      refine K.b 0 rfl (.bool true) (hS.pick [2]) ?_
      refine K.b 1 rfl (.bool true) (hS.pick [2]) ?_
      refine K.p 2 rfl (.slice (some ⟨r_1, 0, none⟩) L.length L.length) (hS.pick [2]) ?_
      refine K.b 3 rfl (.int .i64 ((i : Nat) : Int)) (hS.pick [2]) ?_
      refine K.c 4 rfl (K.QR.ix i 1 rfl rfl rfl Try.underlying54 (by kernel_rfl) (by omega) (by first | (simp; done) | omega | (simp; omega))) (hS.pick [2]) ?_
      refine K.c 5 rfl (K.QR.ld1 (v := .bool (U.getD i false)) rfl rfl (by kernel_rfl) (K.Own.atS (c := cBool) (d := false) (fun _ => rfl) (hS.ownr 1 rfl x_13) hdo.1 i (by omega))) (hS.pick [2]) ?_
      cases hb_23 : U.getD i false
      ·
       refine K.b 6 rfl (.bool true) (hS.pick [2]) ?_
       refine K.b 7 rfl (.bool true) (hS.pick [2]) ?_
       refine K.b 8 rfl (.bool true) (hS.pick [2]) ?_
       refine K.b 9 rfl (.int .i64 b) (hS.pick [2]) ?_
       by_cases h_24 : (b : Int) < (0 : Int)
       ·
        refine K.c 10 rfl (K.QR.nice (v := .bool (decide ((b : Int) < (0 : Int)))) (by kernel_rfl) (congrArg Value.bool (decide_eq_true h_24))) (hS.pick [2]) ?_
        refine K.b 11 rfl (.bool true) (hS.pick [2]) ?_
        refine K.w_ 12 rfl (hS.pick [2]) ?_
        refine K.w_ 13 rfl (hS.pick [2]) ?_
        refine K.w_ 14 rfl (hS.pick [2]) ?_
        refine K.w_ 15 rfl (hS.pick [2]) ?_
        refine K.w_ 16 rfl (hS.pick [2]) ?_
        refine K.w_ 17 rfl (hS.pick [2]) ?_
        refine K.w_ 18 rfl (hS.pick [2]) ?_
        refine K.w_ 19 rfl (hS.pick [2]) ?_
        refine K.w_ 20 rfl (hS.pick [2]) ?_
        refine K.w_ 21 rfl (hS.pick [2]) ?_
        refine K.w_ 22 rfl (hS.pick [2]) ?_
        refine K.b 23 rfl (.bool true) (hS.pick [2]) ?_
        refine K.b 24 rfl (.bool true) (hS.pick [2]) ?_
        refine K.DW.done (by kernel_rfl) ?_
        refine K.t (K.h (K.g (K.q [.int .i64 ((i : Nat) : Int), .int .i64 ((i : Nat) : Int)] (K.z ?_))))
        refine K.blk_normal ?_
        refine K.t (K.g (K.q [.int .i64 ((i : Nat) : Int)] ?_))
        refine K.a (K.QR.n64 ((((i : Nat) : Int) : Int) + (1 : Int)) ((i + 1 : Nat) : Int) (by kernel_rfl) (by omega)) ?_
        refine K.q [.int .i64 ((i + 1 : Nat) : Int)] (K.z (K.t ?_))
        refine ⟨_, ?_, i + 1, ((i : Nat) : Int), rfl, ⟨by rfl, by rfl, by rfl, by rfl, by rfl, by rfl, by rfl, by rfl, trivial⟩, (by omega), (hbi.take (.inl hb_22) hb_23 (.inl (by omega))), hS.pick [0, 1, 2, 3]⟩
        omega
       ·
        refine K.c 10 rfl (K.QR.nice (v := .bool (decide ((b : Int) < (0 : Int)))) (by kernel_rfl) (congrArg Value.bool (decide_eq_false h_24))) (hS.pick [2]) ?_
        refine K.b 11 rfl (.bool false) (hS.pick [2]) ?_
        refine K.p 12 rfl (.slice (some ⟨b_20, of_21, none⟩) L.length cap) (hS.pick [2]) ?_
        refine K.p 13 rfl (.int .i64 ((i : Nat) : Int)) (hS.pick [2]) ?_
        refine K.m 14 rfl (fun w hS => K.QR.ix (of_21 + i * 11) 11 rfl rfl rfl Try.underlying22 (by kernel_rfl) (by omega) (by first | (simp; done) | omega | (simp; omega))) (hS.pick [2]) ?_
        refine K.p 15 rfl (.pointer (some ⟨b_20, of_21 + i * 11 + 8, none⟩)) (hS.pick [2]) ?_
        refine K.o_ 16 rfl (.int .i64 ((L.getD i call0).wh)) (fun w hS => ((hx _ (hS.pick [0])).ld i (by omega) 8 _ rfl)) (hS.pick [2]) ?_
        refine K.p 17 rfl (.slice (some ⟨b_20, of_21, none⟩) L.length cap) (hS.pick [2]) ?_
        refine K.b 18 rfl (.int .i64 b) (hS.pick [2]) ?_
        refine K.c 19 rfl (K.QR.ix (of_21 + b.toNat * 11) 11 rfl rfl rfl Try.underlying22 (by kernel_rfl) (by omega) (by first | (simp; done) | omega | (simp; omega))) (hS.pick [2]) ?_
        refine K.b 20 rfl (.pointer (some ⟨b_20, of_21 + b.toNat * 11 + 8, none⟩)) (hS.pick [2]) ?_
        refine K.c 21 rfl (K.QR.ld1 (v := .int .i64 ((L.getD b.toNat call0).wh)) rfl rfl (by kernel_rfl) ((hx _ (hS.pick [2])).ld b.toNat (by omega) 8 _ rfl)) (hS.pick [2]) ?_
        by_cases h_25 : ((L.getD i call0).wh : Int) < ((L.getD b.toNat call0).wh : Int)
        ·
         refine K.c 22 rfl (K.QR.nice (v := .bool (decide (((L.getD i call0).wh : Int) < ((L.getD b.toNat call0).wh : Int)))) (by kernel_rfl) (congrArg Value.bool (decide_eq_true h_25))) (hS.pick [2]) ?_
         refine K.b 23 rfl (.bool true) (hS.pick [2]) ?_
         refine K.b 24 rfl (.bool true) (hS.pick [2]) ?_
         refine K.DW.done (by kernel_rfl) ?_
         refine K.t (K.h (K.g (K.q [.int .i64 ((i : Nat) : Int), .int .i64 ((i : Nat) : Int)] (K.z ?_))))
         refine K.blk_normal ?_
         refine K.t (K.g (K.q [.int .i64 ((i : Nat) : Int)] ?_))
         refine K.a (K.QR.n64 ((((i : Nat) : Int) : Int) + (1 : Int)) ((i + 1 : Nat) : Int) (by kernel_rfl) (by omega)) ?_
         refine K.q [.int .i64 ((i + 1 : Nat) : Int)] (K.z (K.t ?_))
         refine ⟨_, ?_, i + 1, ((i : Nat) : Int), rfl, ⟨by rfl, by rfl, by rfl, by rfl, by rfl, by rfl, by rfl, by rfl, trivial⟩, (by omega), (hbi.take (.inl hb_22) hb_23 (.inr (by omega))), hS.pick [0, 1, 2, 3]⟩
         omega
        ·
         refine K.c 22 rfl (K.QR.nice (v := .bool (decide (((L.getD i call0).wh : Int) < ((L.getD b.toNat call0).wh : Int)))) (by kernel_rfl) (congrArg Value.bool (decide_eq_false h_25))) (hS.pick [2]) ?_
         refine K.b 23 rfl (.bool false) (hS.pick [2]) ?_
         refine K.b 24 rfl (.bool false) (hS.pick [2]) ?_
         refine K.DW.done (by kernel_rfl) ?_
         refine K.t (K.f (K.k ?_))
         refine K.blk_normal ?_
         refine K.t (K.g (K.q [.int .i64 ((i : Nat) : Int)] ?_))
         refine K.a (K.QR.n64 ((((i : Nat) : Int) : Int) + (1 : Int)) ((i + 1 : Nat) : Int) (by kernel_rfl) (by omega)) ?_
         refine K.q [.int .i64 ((i + 1 : Nat) : Int)] (K.z (K.t ?_))
         refine ⟨_, ?_, i + 1, b, rfl, ⟨by rfl, by rfl, by rfl, by rfl, by rfl, by rfl, by rfl, by rfl, trivial⟩, (by omega), (hbi.stay (by omega) (by omega)), hS.pick [0, 1, 2, 3]⟩
         omega
      ·
       refine K.b 6 rfl (.bool false) (hS.pick [2]) ?_
       refine K.b 7 rfl (.bool false) (hS.pick [2]) ?_
       refine K.b 8 rfl (.bool false) (hS.pick [2]) ?_
       refine K.w_ 9 rfl (hS.pick [2]) ?_
       refine K.w_ 10 rfl (hS.pick [2]) ?_
       refine K.w_ 11 rfl (hS.pick [2]) ?_
       refine K.w_ 12 rfl (hS.pick [2]) ?_
       refine K.w_ 13 rfl (hS.pick [2]) ?_
       refine K.w_ 14 rfl (hS.pick [2]) ?_
       refine K.w_ 15 rfl (hS.pick [2]) ?_
       refine K.w_ 16 rfl (hS.pick [2]) ?_
       refine K.w_ 17 rfl (hS.pick [2]) ?_
       refine K.w_ 18 rfl (hS.pick [2]) ?_
       refine K.w_ 19 rfl (hS.pick [2]) ?_
       refine K.w_ 20 rfl (hS.pick [2]) ?_
       refine K.w_ 21 rfl (hS.pick [2]) ?_
       refine K.w_ 22 rfl (hS.pick [2]) ?_
       refine K.w_ 23 rfl (hS.pick [2]) ?_
       refine K.b 24 rfl (.bool false) (hS.pick [2]) ?_
       refine K.DW.done (by kernel_rfl) ?_
       refine K.t (K.f (K.k ?_))
       refine K.blk_normal ?_
       refine K.t (K.g (K.q [.int .i64 ((i : Nat) : Int)] ?_))
       refine K.a (K.QR.n64 ((((i : Nat) : Int) : Int) + (1 : Int)) ((i + 1 : Nat) : Int) (by kernel_rfl) (by omega)) ?_
       refine K.q [.int .i64 ((i + 1 : Nat) : Int)] (K.z (K.t ?_))
       refine ⟨_, ?_, i + 1, b, rfl, ⟨by rfl, by rfl, by rfl, by rfl, by rfl, by rfl, by rfl, by rfl, trivial⟩, (by omega), (hbi.skip (.inr hb_23)), hS.pick [0, 1, 2, 3]⟩
       omega
     ·
      refine K.q [.bool false, .bool false, .slice (some ⟨b_20, of_21, none⟩) L.length cap, .int .i64 ((i : Nat) : Int)] ?_
      refine K.a (K.QR.ix (of_21 + i * 11) 11 rfl rfl rfl Try.underlying22 (by kernel_rfl) (by omega) (by first | (simp; done) | omega | (simp; omega))) ?_
      refine K.q [.pointer (some ⟨b_20, of_21 + i * 11 + 10, none⟩)] ?_
      refine K.d (.bool ((L.getD i call0).kp)) ((hx _ (hS.pick [2])).ld i (by omega) 10 _ rfl) ?_
      cases hb_26 : (L.getD i call0).kp
      ·
       refine K.q [.bool false, .bool false] (K.z (K.t (K.s ?_)))
       refine K.KW.gdrawn [] hS (by kernel_rfl) ?_
       clear hS; intro w hS
       refine K.b 0 rfl (.bool false) (hS.pick []) ?_
       refine K.b 1 rfl (.bool false) (hS.pick []) ?_
       refine K.w_ 2 rfl (hS.pick []) ?_
       refine K.w_ 3 rfl (hS.pick []) ?_
       refine K.w_ 4 rfl (hS.pick []) ?_
       refine K.w_ 5 rfl (hS.pick []) ?_
       refine K.w_ 6 rfl (hS.pick []) ?_
       refine K.b 7 rfl (.bool false) (hS.pick []) ?_
       refine K.b 8 rfl (.bool false) (hS.pick []) ?_
       refine K.w_ 9 rfl (hS.pick []) ?_
       refine K.w_ 10 rfl (hS.pick []) ?_
       refine K.w_ 11 rfl (hS.pick []) ?_
       refine K.w_ 12 rfl (hS.pick []) ?_
       refine K.w_ 13 rfl (hS.pick []) ?_
       refine K.w_ 14 rfl (hS.pick []) ?_
       refine K.w_ 15 rfl (hS.pick []) ?_
       refine K.w_ 16 rfl (hS.pick []) ?_
       refine K.w_ 17 rfl (hS.pick []) ?_
       refine K.w_ 18 rfl (hS.pick []) ?_
       refine K.w_ 19 rfl (hS.pick []) ?_
       refine K.w_ 20 rfl (hS.pick []) ?_
       refine K.w_ 21 rfl (hS.pick []) ?_
       refine K.w_ 22 rfl (hS.pick []) ?_
       refine K.w_ 23 rfl (hS.pick []) ?_
       refine K.b 24 rfl (.bool false) (hS.pick []) ?_
       refine K.DW.done (by kernel_rfl) ?_
       refine K.t (K.f (K.k ?_))
       refine K.blk_normal ?_
       refine K.t (K.g (K.q [.int .i64 ((i : Nat) : Int)] ?_))
       refine K.a (K.QR.n64 ((((i : Nat) : Int) : Int) + (1 : Int)) ((i + 1 : Nat) : Int) (by kernel_rfl) (by omega)) ?_
       refine K.q [.int .i64 ((i + 1 : Nat) : Int)] (K.z (K.t ?_))
       refine ⟨_, ?_, i + 1, b, rfl, ⟨by rfl, by rfl, by rfl, by rfl, by rfl, by rfl, by rfl, by rfl, trivial⟩, (by omega), (hbi.skip (.inl (fun hh => by rcases hh with hh | hh <;> simp_all))), hS.pick [0, 1, 2, 3]⟩
       omega
      ·
       refine K.q [.bool true, .bool true] (K.z (K.t (K.s ?_)))
       refine K.KW.gdrawn [2] hS (by kernel_rfl) ?_
       clear hS; intro w hS
       refine K.b 0 rfl (.bool true) (hS.pick [2]) ?_
       refine K.b 1 rfl (.bool true) (hS.pick [2]) ?_
       refine K.p 2 rfl (.slice (some ⟨r_1, 0, none⟩) L.length L.length) (hS.pick [2]) ?_
       refine K.b 3 rfl (.int .i64 ((i : Nat) : Int)) (hS.pick [2]) ?_
       refine K.c 4 rfl (K.QR.ix i 1 rfl rfl rfl Try.underlying54 (by kernel_rfl) (by omega) (by first | (simp; done) | omega | (simp; omega))) (hS.pick [2]) ?_
       refine K.c 5 rfl (K.QR.ld1 (v := .bool (U.getD i false)) rfl rfl (by kernel_rfl) (K.Own.atS (c := cBool) (d := false) (fun _ => rfl) (hS.ownr 1 rfl x_13) hdo.1 i (by omega))) (hS.pick [2]) ?_
       cases hb_27 : U.getD i false
       ·
        refine K.b 6 rfl (.bool true) (hS.pick [2]) ?_
        refine K.b 7 rfl (.bool true) (hS.pick [2]) ?_
        refine K.b 8 rfl (.bool true) (hS.pick [2]) ?_
        refine K.b 9 rfl (.int .i64 b) (hS.pick [2]) ?_
        by_cases h_28 : (b : Int) < (0 : Int)
        ·
         refine K.c 10 rfl (K.QR.nice (v := .bool (decide ((b : Int) < (0 : Int)))) (by kernel_rfl) (congrArg Value.bool (decide_eq_true h_28))) (hS.pick [2]) ?_
         refine K.b 11 rfl (.bool true) (hS.pick [2]) ?_
         refine K.w_ 12 rfl (hS.pick [2]) ?_
         refine K.w_ 13 rfl (hS.pick [2]) ?_
         refine K.w_ 14 rfl (hS.pick [2]) ?_
         refine K.w_ 15 rfl (hS.pick [2]) ?_
         refine K.w_ 16 rfl (hS.pick [2]) ?_
         refine K.w_ 17 rfl (hS.pick [2]) ?_
         refine K.w_ 18 rfl (hS.pick [2]) ?_
         refine K.w_ 19 rfl (hS.pick [2]) ?_
         refine K.w_ 20 rfl (hS.pick [2]) ?_
         refine K.w_ 21 rfl (hS.pick [2]) ?_
         refine K.w_ 22 rfl (hS.pick [2]) ?_
         refine K.b 23 rfl (.bool true) (hS.pick [2]) ?_
         refine K.b 24 rfl (.bool true) (hS.pick [2]) ?_
         refine K.DW.done (by kernel_rfl) ?_
         refine K.t (K.h (K.g (K.q [.int .i64 ((i : Nat) : Int), .int .i64 ((i : Nat) : Int)] (K.z ?_))))
         refine K.blk_normal ?_
         refine K.t (K.g (K.q [.int .i64 ((i : Nat) : Int)] ?_))
         refine K.a (K.QR.n64 ((((i : Nat) : Int) : Int) + (1 : Int)) ((i + 1 : Nat) : Int) (by kernel_rfl) (by omega)) ?_
         refine K.q [.int .i64 ((i + 1 : Nat) : Int)] (K.z (K.t ?_))
         refine ⟨_, ?_, i + 1, ((i : Nat) : Int), rfl, ⟨by rfl, by rfl, by rfl, by rfl, by rfl, by rfl, by rfl, by rfl, trivial⟩, (by omega), (hbi.take (.inr hb_26) hb_27 (.inl (by omega))), hS.pick [0, 1, 2, 3]⟩
         omega
        ·
         refine K.c 10 rfl (K.QR.nice (v := .bool (decide ((b : Int) < (0 : Int)))) (by kernel_rfl) (congrArg Value.bool (decide_eq_false h_28))) (hS.pick [2]) ?_
         refine K.b 11 rfl (.bool false) (hS.pick [2]) ?_
         refine K.p 12 rfl (.slice (some ⟨b_20, of_21, none⟩) L.length cap) (hS.pick [2]) ?_
         refine K.p 13 rfl (.int .i64 ((i : Nat) : Int)) (hS.pick [2]) ?_
         refine K.m 14 rfl (fun w hS => K.QR.ix (of_21 + i * 11) 11 rfl rfl rfl Try.underlying22 (by kernel_rfl) (by omega) (by first | (simp; done) | omega | (simp; omega))) (hS.pick [2]) ?_
         refine K.p 15 rfl (.pointer (some ⟨b_20, of_21 + i * 11 + 8, none⟩)) (hS.pick [2]) ?_
         refine K.o_ 16 rfl (.int .i64 ((L.getD i call0).wh)) (fun w hS => ((hx _ (hS.pick [0])).ld i (by omega) 8 _ rfl)) (hS.pick [2]) ?_
         refine K.p 17 rfl (.slice (some ⟨b_20, of_21, none⟩) L.length cap) (hS.pick [2]) ?_
         refine K.b 18 rfl (.int .i64 b) (hS.pick [2]) ?_
         refine K.c 19 rfl (K.QR.ix (of_21 + b.toNat * 11) 11 rfl rfl rfl Try.underlying22 (by kernel_rfl) (by omega) (by first | (simp; done) | omega | (simp; omega))) (hS.pick [2]) ?_
         refine K.b 20 rfl (.pointer (some ⟨b_20, of_21 + b.toNat * 11 + 8, none⟩)) (hS.pick [2]) ?_
         refine K.c 21 rfl (K.QR.ld1 (v := .int .i64 ((L.getD b.toNat call0).wh)) rfl rfl (by kernel_rfl) ((hx _ (hS.pick [2])).ld b.toNat (by omega) 8 _ rfl)) (hS.pick [2]) ?_
         by_cases h_29 : ((L.getD i call0).wh : Int) < ((L.getD b.toNat call0).wh : Int)
         ·
          refine K.c 22 rfl (K.QR.nice (v := .bool (decide (((L.getD i call0).wh : Int) < ((L.getD b.toNat call0).wh : Int)))) (by kernel_rfl) (congrArg Value.bool (decide_eq_true h_29))) (hS.pick [2]) ?_
          refine K.b 23 rfl (.bool true) (hS.pick [2]) ?_
          refine K.b 24 rfl (.bool true) (hS.pick [2]) ?_
          refine K.DW.done (by kernel_rfl) ?_
          refine K.t (K.h (K.g (K.q [.int .i64 ((i : Nat) : Int), .int .i64 ((i : Nat) : Int)] (K.z ?_))))
          refine K.blk_normal ?_
          refine K.t (K.g (K.q [.int .i64 ((i : Nat) : Int)] ?_))
          refine K.a (K.QR.n64 ((((i : Nat) : Int) : Int) + (1 : Int)) ((i + 1 : Nat) : Int) (by kernel_rfl) (by omega)) ?_
          refine K.q [.int .i64 ((i + 1 : Nat) : Int)] (K.z (K.t ?_))
          refine ⟨_, ?_, i + 1, ((i : Nat) : Int), rfl, ⟨by rfl, by rfl, by rfl, by rfl, by rfl, by rfl, by rfl, by rfl, trivial⟩, (by omega), (hbi.take (.inr hb_26) hb_27 (.inr (by omega))), hS.pick [0, 1, 2, 3]⟩
          omega
         ·
          refine K.c 22 rfl (K.QR.nice (v := .bool (decide (((L.getD i call0).wh : Int) < ((L.getD b.toNat call0).wh : Int)))) (by kernel_rfl) (congrArg Value.bool (decide_eq_false h_29))) (hS.pick [2]) ?_
          refine K.b 23 rfl (.bool false) (hS.pick [2]) ?_
          refine K.b 24 rfl (.bool false) (hS.pick [2]) ?_
          refine K.DW.done (by kernel_rfl) ?_
          refine K.t (K.f (K.k ?_))
          refine K.blk_normal ?_
          refine K.t (K.g (K.q [.int .i64 ((i : Nat) : Int)] ?_))
          refine K.a (K.QR.n64 ((((i : Nat) : Int) : Int) + (1 : Int)) ((i + 1 : Nat) : Int) (by kernel_rfl) (by omega)) ?_
          refine K.q [.int .i64 ((i + 1 : Nat) : Int)] (K.z (K.t ?_))
          refine ⟨_, ?_, i + 1, b, rfl, ⟨by rfl, by rfl, by rfl, by rfl, by rfl, by rfl, by rfl, by rfl, trivial⟩, (by omega), (hbi.stay (by omega) (by omega)), hS.pick [0, 1, 2, 3]⟩
          omega
       ·
        refine K.b 6 rfl (.bool false) (hS.pick [2]) ?_
        refine K.b 7 rfl (.bool false) (hS.pick [2]) ?_
        refine K.b 8 rfl (.bool false) (hS.pick [2]) ?_
        refine K.w_ 9 rfl (hS.pick [2]) ?_
        refine K.w_ 10 rfl (hS.pick [2]) ?_
        refine K.w_ 11 rfl (hS.pick [2]) ?_
        refine K.w_ 12 rfl (hS.pick [2]) ?_
        refine K.w_ 13 rfl (hS.pick [2]) ?_
        refine K.w_ 14 rfl (hS.pick [2]) ?_
        refine K.w_ 15 rfl (hS.pick [2]) ?_
        refine K.w_ 16 rfl (hS.pick [2]) ?_
        refine K.w_ 17 rfl (hS.pick [2]) ?_
        refine K.w_ 18 rfl (hS.pick [2]) ?_
        refine K.w_ 19 rfl (hS.pick [2]) ?_
        refine K.w_ 20 rfl (hS.pick [2]) ?_
        refine K.w_ 21 rfl (hS.pick [2]) ?_
        refine K.w_ 22 rfl (hS.pick [2]) ?_
        refine K.w_ 23 rfl (hS.pick [2]) ?_
        refine K.b 24 rfl (.bool false) (hS.pick [2]) ?_
        refine K.DW.done (by kernel_rfl) ?_
        refine K.t (K.f (K.k ?_))
        refine K.blk_normal ?_
        refine K.t (K.g (K.q [.int .i64 ((i : Nat) : Int)] ?_))
        refine K.a (K.QR.n64 ((((i : Nat) : Int) : Int) + (1 : Int)) ((i + 1 : Nat) : Int) (by kernel_rfl) (by omega)) ?_
        refine K.q [.int .i64 ((i + 1 : Nat) : Int)] (K.z (K.t ?_))
        refine ⟨_, ?_, i + 1, b, rfl, ⟨by rfl, by rfl, by rfl, by rfl, by rfl, by rfl, by rfl, by rfl, trivial⟩, (by omega), (hbi.skip (.inr hb_27)), hS.pick [0, 1, 2, 3]⟩
        omega
    ·
     refine K.x ((((i : Nat) : Int) : Int) < (((L.length : Nat) : Int) : Int)) h_19 ?_
     refine K.z (K.t (K.f ?_))
     refine K.KW.exit ?_
     refine K.thn_exit ?_
     refine K.thn_exit ?_
     refine K.blk_hit ?_
     refine K.t (K.s (K.g (K.q [.int .i64 b] ?_)))
     by_cases h_30 : (b : Int) ≥ (0 : Int)
     ·
      refine K.y ((b : Int) ≥ (0 : Int)) h_30 ?_
      refine K.z (K.t (K.h (K.s ?_)))
      have hbv : 0 ≤ b ∧ b < (L.length : Int) := by rcases hbi with ⟨e, _⟩ | ⟨e1, e2, _⟩ <;> omega
      have hul := hdo.len
      obtain ⟨b_31, of_32, rfl, _⟩ := (hx _ (hS.pick [2])).at_ (by omega)
      refine K.g (K.q [.slice (some ⟨r_1, 0, none⟩) L.length L.length, .int .i64 b] ?_)
      refine K.a (K.QR.ix b.toNat 1 rfl rfl rfl Try.underlying54 (by kernel_rfl) (by omega) (by first | (simp; done) | omega | (simp; omega))) ?_
      refine K.l (K.OW.grst 1 b.toNat [.bool true] (((U.set b.toNat true)).flatMap cBool) hS x_13 ?_ (by show _ + 1 ≤ _; omega) (K.set1 (c := cBool) U b.toNat true (by have := hdo.1; omega)))
      clear hS; intro w l_33 o_34 hS
      have ln_35 : ((U.set b.toNat true)).length = _ := (List.length_set).trans hdo.1
      replace hS : K.Sat w0 [o1, l_33, gx, fr] w := hS
      refine K.z (K.t (K.g (K.q [.slice q1 o.length c1, .int .i64 b] ?_)))
      refine K.l (K.OW.gbs [(0, .int .i64 b)] [.int .i64 b] hS (fun w => K.bs_run (P := Try.prog) w 23 3 1 _ _ Try.underlying23 (by kernel_rfl)) ?_)
      clear hS; intro w r_36 g_37 hg_38 hS
      refine K.l (K.OW.gapp (P := Try.prog) (xs := (o).flatMap cI64) (z := .int .i64 0) (size := 1) (bytes := 8) 1 [.int .i64 b] hS x_12 ?_ (fun j u hj => (by rw [Nat.zero_add]; exact (hS.blk 0 rfl hg_38).cell hj)) (K.one_cells (by rfl)) (by rfl) Try.underlying23 (by kernel_rfl) rfl (by decide) (by unfold maxLen; omega) (by omega))
      clear hS; intro a_39 cap_40 w l_41 o_42 hS
      have ln_43 : ((o ++ [(b : Int)])).length = o.length + 1 := by rw [List.length_append]; rfl
      have o_42c := K.OwnG.cast (xs' := ((o ++ [(b : Int)])).flatMap cI64) o_42 rfl (K.fl_snoc cI64 o (b : Int) rfl)
      replace hS : K.Sat w0 [g_37, l_41, l_33, gx, fr] w := hS
      refine K.q [.slice a_39 (o.length + 1) cap_40] (K.z ?_)
      refine K.blk_normal ?_
      refine K.t (K.g (K.q [.int .i64 ((n : Nat) : Int)] ?_))
      refine K.a (K.QR.n64 ((((n : Nat) : Int) : Int) + (1 : Int)) ((n + 1 : Nat) : Int) (by kernel_rfl) (by omega)) ?_
      refine K.q [.int .i64 ((n + 1 : Nat) : Int)] (K.z (K.t ?_))
      refine ⟨_, ?_, n + 1, (o ++ [(b : Int)]), (U.set b.toNat true), a_39, cap_40, l_41, l_33, rfl, ⟨by rfl, by rfl, congrArg (fun m_ => Value.slice a_39 m_ cap_40) (by first | rfl | (rw [List.length_append]; rfl) : o.length + 1 = ((o ++ [(b : Int)])).length), by rfl, by rfl, by rfl, trivial⟩, (by omega), (by first | omega | (rw [List.length_append]; simp; omega)), (hdo.put (by rw [show L.length = i by omega]; exact hbi) (by omega)), (K.OwnG.cast o_42c (by first | rfl | (rw [List.length_append]; rfl)) rfl), o_34, hS.pick [1, 2, 3, 4]⟩
      omega
     ·
      refine K.x ((b : Int) ≥ (0 : Int)) h_30 ?_
      refine K.z (K.t (K.f (K.k ?_)))
      refine K.blk_normal ?_
      refine K.t (K.g (K.q [.int .i64 ((n : Nat) : Int)] ?_))
      refine K.a (K.QR.n64 ((((n : Nat) : Int) : Int) + (1 : Int)) ((n + 1 : Nat) : Int) (by kernel_rfl) (by omega)) ?_
      refine K.q [.int .i64 ((n + 1 : Nat) : Int)] (K.z (K.t ?_))
      refine ⟨_, ?_, n + 1, o, U, q1, c1, o1, u1, rfl, ⟨by rfl, by rfl, congrArg (fun m_ => Value.slice q1 m_ c1) (by first | rfl | (rw [List.length_append]; rfl) : o.length = (o).length), by rfl, by rfl, by rfl, trivial⟩, (by omega), (by first | omega | (rw [List.length_append]; simp; omega)), (hdo.stop (by rw [show L.length = i by omega]; exact hbi) (by omega)), (K.OwnG.cast x_12 (by first | rfl | (rw [List.length_append]; rfl)) rfl), x_13, hS.pick [0, 1, 2, 3]⟩
      omega
  ·
   refine K.x ((((n : Nat) : Int) : Int) < (((L.length : Nat) : Int) : Int)) h_14 ?_
   refine K.z (K.t (K.f ?_))
   refine K.KW.exit ?_
   refine K.thn_exit ?_
   refine K.thn_exit ?_
   refine K.blk_hit ?_
   refine K.t (K.s (K.g (K.q [.slice q1 o.length c1, .slice q1 o.length c1] (K.z (K.t (K.r ?_))))))
   refine ⟨.inr rfl, rfl, (.slice q1 o.length c1), K.res1 rfl rfl, [gx, o1], ?_, hS.pick [2, 0, 3]⟩
   exact ⟨_, _, _, _, rfl, rfl, x_12, hdo.fin (by omega), by omega⟩
end Go.Proofs.Ytnehocjmgnhhhaa
