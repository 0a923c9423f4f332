import Derived.Test.YtnehocjmgnhhhaaFo
/- Witness: both Orders. -/
namespace Go.Proofs.Ytnehocjmgnhhhaa
open Go.RowKit
set_option linter.unusedVariables false
attribute [local irreducible] K.KW K.RW K.DW K.OW K.QR K.KC
set_option maxHeartbeats 1000000 in
set_option maxRecDepth 100000 in
theorem sortst_ok (w0 : World) (dp : Option Addr) (cp nn : Nat) (P : List Int) (hnn : P.length = nn) (gd : K.Cs) (hd : K.OwnG gd 3 1 dp nn cp (P.flatMap cI64)) (hP1 : nn ≤ 1000000) (bc : Nat) (gc : K.Cs) (a : Option Addr) (cap : Nat) (L : List CallM) (hm : L.length ≤ 1000000) (hgc : gc = [K.pt bc 22 [.slice a L.length cap]]) (gx : K.Cs) (hx : ∀ w, K.Sat w0 [gx] w → K.RowE w a L.length 11 (fun i => cCall (L.getD i call0))) (hv : valP L P) (hst : stbP L P) :
    K.GC Try.prog w0 23 #[.slice dp nn cp, .func (.func 24) [].toArray [.pointer (some ⟨bc, 0, none⟩)].toArray] [gd, gc, gx] (fun v post => ∃ gd' Q, post = [gd', gc, gx] ∧ K.OwnG gd' 3 1 dp nn cp (Q.flatMap cI64) ∧ keepP L P Q 0 nn ∧ srtP L Q 0 nn) := by
  refine K.GC.mk (n := 9) Try.func23 rfl rfl [.slice dp nn cp, .func (.func 24) [].toArray [.pointer (some ⟨bc, 0, none⟩)].toArray] rfl rfl ?_
  intro fr w hS
  replace hS : K.Sat w0 [gd, gc, gx, fr] w := hS
  -- 0 :38
  refine K.KW.region ?_
  refine K.RW.qs [.slice dp nn cp, .slice dp nn cp] (by kernel_rfl) ?_
  refine K.RW.q rfl rfl (K.QR.len (P := Try.prog) rfl rfl Try.underlying23) ?_
  refine K.RW.qs [.func (.func 24) [].toArray [.pointer (some ⟨bc, 0, none⟩)].toArray] (by kernel_rfl) ?_
  refine K.RW.l rfl (K.OW.gcall hS [0, 1, 2] [3] [.slice dp nn cp, .int .i64 ((nn : Nat) : Int), .func (.func 24) [].toArray [.pointer (some ⟨bc, 0, none⟩)].toArray] (stable_ok _ dp cp _ P hnn _ hd (by omega) _ _ _ _ _ hm hgc _ hx hv hst) ?_)
  clear hS; rintro _ _ w ⟨gd_1, Q_2, rfl, ho_3, hr_4, hs_5⟩ hS
  replace hS : K.Sat w0 [gd_1, gc, gx, fr] w := hS
  refine K.RW.nil ?_
  refine ⟨.inl rfl, rfl, (.tuple #[]), K.res0 rfl, [gd_1, gc, gx], ?_, hS.pick [0, 1, 2, 3]⟩
  exact ⟨_, _, rfl, ho_3, hr_4, hs_5⟩
set_option maxHeartbeats 1000000 in
set_option maxRecDepth 100000 in
theorem order_ok (w0 : World) (a : Option Addr) (cap : Nat) (L : List CallM) (hm : L.length ≤ 1000000) (gx : K.Cs) (hx : ∀ w, K.Sat w0 [gx] w → K.RowE w a L.length 11 (fun i => cCall (L.getD i call0))) :
    K.GC Try.prog w0 8 #[.slice a L.length cap] [gx] (fun v post => ∃ r g k Q, post = [gx, g] ∧ v = .slice r Q.length k ∧ K.OwnG g 3 1 r Q.length k (Q.flatMap cI64) ∧ isOrd L Q ∧ Q.length ≤ L.length) := by
  refine K.GC.mk (n := 10) Try.func8 rfl rfl [.slice a L.length cap] rfl rfl ?_
  intro fr w hS
  replace hS : K.Sat w0 [gx, fr] w := hS
  have htl := tookU_len L L.length
  have htl2 : (tookT L).length = (tookU L L.length).length := rfl
  refine K.KW.seq ?_
  -- 0 :18
  refine K.KW.region ?_
  refine K.RW.l rfl (K.OW.gnew 22 [.slice a L.length cap] hS ?_)
  clear hS; intro w r_1 g_2 hg_3 hS
  refine K.RW.qs [.slice none 0 0] (by kernel_rfl) ?_
  refine K.RW.nil ?_
  refine K.thn_normal ?_
  refine K.KW.seq ?_
  -- 1 :19
  refine K.KW.region ?_
  refine K.RW.q rfl rfl (K.QR.ld1 (v := .slice a L.length cap) rfl rfl (by kernel_rfl) ((hS.blk 0 rfl hg_3).cell rfl)) ?_
  refine K.RW.l rfl (K.OW.gcall hS [1] [0, 2] [.slice a L.length cap] (took_ok _ _ _ L (by omega) _ hx) ?_)
  clear hS; rintro _ _ w ⟨r_4, g_5, k_6, rfl, rfl, o_7⟩ hS
  replace hS : K.Sat w0 [gx, g_5, g_2, fr] w := hS
  refine K.RW.qs [.slice r_4 ((tookT L).length) k_6] (by kernel_rfl) ?_
  refine K.RW.nil ?_
  refine K.thn_normal ?_
  refine K.KW.seq ?_
  -- 2 :20
  refine K.KW.region ?_
  refine K.RW.qs [.slice r_4 ((tookT L).length) k_6] (by kernel_rfl) ?_
  refine K.RW.q rfl rfl (K.QR.fn [] [.pointer (some ⟨r_1, 0, none⟩)] rfl rfl rfl) ?_
  refine K.RW.l rfl (K.OW.gcall hS [1, 2, 0] [3] [.slice r_4 ((tookT L).length) k_6, .func (.func 24) [].toArray [.pointer (some ⟨r_1, 0, none⟩)].toArray] (sortst_ok _ r_4 k_6 _ (tookT L) rfl _ o_7 (by omega) _ _ _ _ _ hm hg_3 _ hx (took_val L) (took_stb L)) ?_)
  clear hS; rintro _ _ w ⟨gd_8, Q_9, rfl, ho_10, hr_11, hs_12⟩ hS
  replace hS : K.Sat w0 [gd_8, g_2, gx, fr] w := hS
  refine K.RW.nil ?_
  refine K.thn_normal ?_
  refine K.KW.seq ?_
  -- 3 :21
  refine K.KW.region ?_
  refine K.RW.qs [.slice r_4 ((tookT L).length) k_6, .slice r_4 ((tookT L).length) k_6] (by kernel_rfl) ?_
  refine K.RW.nil ?_
  refine K.thn_normal ?_
  refine K.KW.ret ?_
  refine ⟨.inr rfl, rfl, (.slice r_4 ((tookT L).length) k_6), K.res1 rfl rfl, [gx, gd_8], ?_, hS.pick [2, 0, 3]⟩
  have hql : Q_9.length = (tookT L).length := hr_11.1
  exact ⟨_, _, _, _, rfl, by rw [hql], by rw [hql]; exact ho_10, isOrd.of rfl hr_11 hs_12, by omega⟩
set_option maxHeartbeats 16000000 in
set_option maxRecDepth 100000 in
theorem dorder_ok (w0 : World) (a : Option Addr) (cap : Nat) (L : List CallM) (hm : L.length ≤ 1000000) (gx : K.Cs) (hx : ∀ w, K.Sat w0 [gx] w → K.RowE w a L.length 11 (fun i => cCall (L.getD i call0))) :
    K.GC Try.prog w0 9 #[.slice a L.length cap] [gx] (fun v post => ∃ r g k Q, post = [gx, g] ∧ v = .slice r Q.length k ∧ K.OwnG g 3 1 r Q.length k (Q.flatMap cI64) ∧ isOrd L Q ∧ Q.length ≤ L.length) := by
  refine K.GC.mk (n := 73) Try.func9 rfl rfl [.slice a L.length cap] rfl rfl ?_
  intro fr w hS
  replace hS : K.Sat w0 [gx, fr] w := hS
  refine K.KW.seq ?_
  -- 0 :11
  refine K.KW.region ?_
  refine K.RW.qs [.slice none 0 0] (by kernel_rfl) ?_
  refine K.RW.nil ?_
  refine K.thn_normal ?_
  refine K.KW.seq ?_
  -- 1 :12
  refine K.KW.region ?_
  refine K.RW.qs [.slice none 0 0] (by kernel_rfl) ?_
  refine K.RW.nil ?_
  refine K.thn_normal ?_
  refine K.KW.seq ?_
  -- 2 :13
  refine K.KW.region ?_
  refine K.RW.qs [.slice a L.length cap] (by kernel_rfl) ?_
  refine K.RW.q rfl rfl (K.QR.len (P := Try.prog) rfl rfl Try.underlying22) ?_
  refine K.RW.l rfl (K.OW.gmk (P := Try.prog) (m := L.length) (cc := cBool) (z := .bool false) (size := 1) (bytes := 1) (false : Bool) hS ?_ Try.underlying54 (by kernel_rfl) rfl rfl (by unfold maxLen; omega) (by omega))
  clear hS; intro w r_1 l_2 o_3 hS
  refine K.RW.qs [.slice (some ⟨r_1, 0, none⟩) L.length L.length] (by kernel_rfl) ?_
  refine K.RW.nil ?_
  refine K.thn_normal ?_
  refine K.KW.seq ?_
  refine K.KW.seq ?_
  -- 3 :14
  refine K.KW.region ?_
  refine K.RW.qs [.int .i64 0] (by kernel_rfl) ?_
  refine K.RW.nil ?_
  refine K.thn_normal ?_
  refine K.KW.block ?_
  obtain ⟨z_4, hz_5⟩ : ∃ z : K.Cs, z = [] := ⟨_, rfl⟩
  replace hS : K.Sat w0 [z_4, l_2, gx, fr] w := hS.of (by simp [hz_5])
  have o_6 : K.OwnG z_4 3 1 none 0 0 [] := by rw [hz_5]; exact K.OwnG.nil _ _
  refine K.KW.loop (fun m_ F_ w_ => ∃ (n : Nat) (o : List Int) (U : List Bool) (q1 : Option Addr) (c1 : Nat) (o1 : K.Cs) (u1 : K.Cs), m_ = L.length - n ∧ K.Sl F_ [(0, .slice a L.length cap), (2, .slice none 0 0), (3, .slice q1 o.length c1), (4, .slice (some ⟨r_1, 0, none⟩) L.length L.length), (5, .int .i64 ((n : Nat) : Int)), (73, undef)] ∧ n ≤ L.length ∧ (o.length ≤ n) ∧ dOrd L U o n ∧ K.OwnG o1 3 1 q1 o.length c1 ((o).flatMap cI64) ∧ K.OwnG u1 4 1 (some ⟨r_1, 0, none⟩) L.length L.length ((U).flatMap cBool) ∧ K.Sat w0 [o1, u1, gx, fr] w_) ((fun (n : Nat) (o : List Int) (U : List Bool) (q1 : Option Addr) (c1 : Nat) => L.length - n) 0 [] (List.replicate L.length false) none 0) ?_ ?_
  · -- begins
    exact ⟨0, [], (List.replicate L.length false), none, 0, z_4, l_2, rfl, ⟨by rfl, by rfl, by rfl, by rfl, by rfl, by rfl, trivial⟩, (by omega), (by simp), (dOrd.nil), o_6, o_3, hS.pick [0, 1, 2, 3]⟩
  · -- a round
    clear hS
    intro m_7 F_8 w hI
    obtain ⟨n, o, U, q1, c1, o1, u1, rfl, sl_9, p_10, p_11, hdo, x_12, x_13, hS⟩ := hI
    rw [← K.Sl.puts sl_9]; clear sl_9
    refine K.KW.seq ?_
    refine K.KW.seq ?_
    -- 4 :14
    refine K.KW.region ?_
    refine K.RW.qs [.int .i64 ((n : Nat) : Int), .slice a L.length cap] (by kernel_rfl) ?_
    refine K.RW.q rfl rfl (K.QR.len (P := Try.prog) rfl rfl Try.underlying22) ?_
    by_cases h_14 : (((n : Nat) : Int) : Int) < (((L.length : Nat) : Int) : Int)
    ·  -- yes
      refine K.RW.q rfl rfl (K.QR.nice (v := .bool (decide ((((n : Nat) : Int) : Int) < (((L.length : Nat) : Int) : Int)))) (by kernel_rfl) (congrArg Value.bool (decide_eq_true h_14))) ?_
      refine K.RW.nil ?_
      refine K.thn_normal ?_
      refine K.KW.ifT rfl ?_
      refine K.KW.skip ?_
      refine K.thn_normal ?_
      refine K.KW.seq ?_
      refine K.KW.block ?_
      refine K.KW.seq ?_
      -- 6 :15
      refine K.KW.region ?_
      refine K.RW.qs [.int .i64 (-1)] (by kernel_rfl) ?_
      refine K.RW.nil ?_
      refine K.thn_normal ?_
      refine K.KW.seq ?_
      refine K.KW.seq ?_
      -- 7 :16
      refine K.KW.region ?_
      refine K.RW.qs [.int .i64 0] (by kernel_rfl) ?_
      refine K.RW.nil ?_
      refine K.thn_normal ?_
      refine K.KW.block ?_
      refine K.KW.loop (fun m_ F_ w_ => ∃ (i : Nat) (b : Int), m_ = L.length - i ∧ K.Sl F_ [(0, .slice a L.length cap), (2, .slice none 0 0), (3, .slice q1 o.length c1), (4, .slice (some ⟨r_1, 0, none⟩) L.length L.length), (5, .int .i64 ((n : Nat) : Int)), (6, .int .i64 b), (7, .int .i64 ((i : Nat) : Int)), (73, undef)] ∧ i ≤ L.length ∧ bstI L U i b ∧ K.Sat w0 [o1, u1, gx, fr] w_) ((fun (i : Nat) (b : Int) => L.length - i) 0 (-1)) ?_ ?_
      · -- begins
        exact ⟨0, (-1), rfl, ⟨by rfl, by rfl, by rfl, by rfl, by rfl, by rfl, by rfl, by rfl, trivial⟩, (by omega), (bstI.nil), hS.pick [0, 1, 2, 3]⟩
      · -- a round
        clear hS
        intro m_15 F_16 w hI
        obtain ⟨i, b, rfl, sl_17, p_18, hbi, hS⟩ := hI
        rw [← K.Sl.puts sl_17]; clear sl_17
        refine K.KW.seq ?_
        refine K.KW.seq ?_
        -- 8 :16
        refine K.KW.region ?_
        refine K.RW.qs [.int .i64 ((i : Nat) : Int), .slice a L.length cap] (by kernel_rfl) ?_
        refine K.RW.q rfl rfl (K.QR.len (P := Try.prog) rfl rfl Try.underlying22) ?_
        by_cases h_19 : (((i : Nat) : Int) : Int) < (((L.length : Nat) : Int) : Int)
        ·  -- yes
          refine K.RW.q rfl rfl (K.QR.nice (v := .bool (decide ((((i : Nat) : Int) : Int) < (((L.length : Nat) : Int) : Int)))) (by kernel_rfl) (congrArg Value.bool (decide_eq_true h_19))) ?_
          refine K.RW.nil ?_
          refine K.thn_normal ?_
          refine K.KW.ifT rfl ?_
          refine K.KW.skip ?_
          refine K.thn_normal ?_
          refine K.KW.seq ?_
          refine K.KW.block ?_
          refine K.KW.seq ?_
          -- 10 :17
          have hbv : b < 0 ∨ (0 ≤ b ∧ b < (i : Int) ∧ b.toNat < L.length) := by rcases hbi with ⟨e, _⟩ | ⟨e1, e2, _⟩ <;> omega
          have hul := hdo.len
          obtain ⟨b_20, of_21, rfl, _⟩ := (hx _ (hS.pick [2])).at_ (by omega)
          refine K.KW.region ?_
          refine K.RW.qs [.slice (some ⟨b_20, of_21, none⟩) L.length cap, .int .i64 ((i : Nat) : Int)] (by kernel_rfl) ?_
          refine K.RW.q rfl rfl (K.QR.ix (of_21 + i * 11) 11 rfl rfl rfl Try.underlying22 (by kernel_rfl) (by omega) (by first | (simp; done) | omega | (simp; omega))) ?_
          refine K.RW.qs [.pointer (some ⟨b_20, of_21 + i * 11 + 9, none⟩)] (by kernel_rfl) ?_
          refine K.RW.q rfl rfl (K.QR.ld1 (v := .bool ((L.getD i call0).cr)) rfl rfl (by kernel_rfl) ((hx _ (hS.pick [2])).ld i (by omega) 9 _ rfl)) ?_
          cases hb_22 : (L.getD i call0).cr
          ·
            refine K.RW.qs [.bool true, .bool true] (by kernel_rfl) ?_
            refine K.RW.skip rfl (by kernel_rfl) ?_
            refine K.RW.skip rfl (by kernel_rfl) ?_
            refine K.RW.skip rfl (by kernel_rfl) ?_
            refine K.RW.skip rfl (by kernel_rfl) ?_
            refine K.RW.skip rfl (by kernel_rfl) ?_
            refine K.RW.qs [.bool true, .bool true] (by kernel_rfl) ?_
            refine K.RW.nil ?_
            refine K.thn_normal ?_
            refine K.KW.seq ?_
            -- 11 :18
            refine K.KW.gdrawn [2] hS (by kernel_rfl) ?_
            clear hS; intro w hS
            refine K.DW.l 0 rfl (by kernel_rfl) rfl (K.OW.q rfl (K.QR.k (v := .bool true) (by kernel_rfl)) ?_)
            refine ⟨.inl (hS.pick [2]), ?_⟩
            refine K.DW.l 1 rfl (by kernel_rfl) rfl (K.OW.q rfl (K.QR.k (v := .bool true) (by kernel_rfl)) ?_)
            refine ⟨.inl (hS.pick [2]), ?_⟩
            refine K.DW.q 2 (by kernel_rfl) rfl rfl (by kernel_rfl) (by kernel_rfl) (fun w hS => K.QR.k (v := .slice (some ⟨r_1, 0, none⟩) L.length L.length) (by kernel_rfl)) (hS.pick [2]) ?_
            refine K.DW.l 3 rfl (by kernel_rfl) (by kernel_rfl) (K.OW.q rfl (K.QR.k (v := .int .i64 ((i : Nat) : Int)) (by kernel_rfl)) ?_)
            refine ⟨.inl (hS.pick [2]), ?_⟩
            refine K.DW.l 4 rfl (by kernel_rfl) (by kernel_rfl) (K.OW.q rfl (K.QR.ix i 1 rfl rfl rfl Try.underlying54 (by kernel_rfl) (by omega) (by first | (simp; done) | omega | (simp; omega))) ?_)
            refine ⟨.inl (hS.pick [2]), ?_⟩
            refine K.DW.l 5 rfl (by kernel_rfl) (by kernel_rfl) (K.OW.q rfl (K.QR.ld1 (v := .bool (U.getD i false)) rfl rfl (by kernel_rfl) (K.Own.atS (c := cBool) (d := false) (fun _ => rfl) (hS.ownr 1 rfl x_13) hdo.1 i (by omega))) ?_)
            refine ⟨.inl (hS.pick [2]), ?_⟩
            cases hb_23 : U.getD i false
            ·
              refine K.DW.l 6 rfl (by kernel_rfl) (by kernel_rfl) (K.OW.q rfl (K.QR.k (v := .bool true) (by kernel_rfl)) ?_)
              refine ⟨.inl (hS.pick [2]), ?_⟩
              refine K.DW.l 7 rfl (by kernel_rfl) rfl (K.OW.q rfl (K.QR.k (v := .bool true) (by kernel_rfl)) ?_)
              refine ⟨.inl (hS.pick [2]), ?_⟩
              refine K.DW.l 8 rfl (by kernel_rfl) rfl (K.OW.q rfl (K.QR.k (v := .bool true) (by kernel_rfl)) ?_)
              refine ⟨.inl (hS.pick [2]), ?_⟩
              refine K.DW.l 9 rfl (by kernel_rfl) (by kernel_rfl) (K.OW.q rfl (K.QR.k (v := .int .i64 b) (by kernel_rfl)) ?_)
              refine ⟨.inl (hS.pick [2]), ?_⟩
              by_cases h_24 : (b : Int) < (0 : Int)
              ·  -- yes
                refine K.DW.l 10 rfl (by kernel_rfl) (by kernel_rfl) (K.OW.q rfl (K.QR.nice (v := .bool (decide ((b : Int) < (0 : Int)))) (by kernel_rfl) (congrArg Value.bool (decide_eq_true h_24))) ?_)
                refine ⟨.inl (hS.pick [2]), ?_⟩
                refine K.DW.l 11 rfl (by kernel_rfl) (by kernel_rfl) (K.OW.q rfl (K.QR.k (v := .bool true) (by kernel_rfl)) ?_)
                refine ⟨.inl (hS.pick [2]), ?_⟩
                refine K.DW.skip 12 (by kernel_rfl) rfl rfl (by kernel_rfl) (by kernel_rfl) (hS.pick [2]) ?_
                refine K.DW.skip 13 (by kernel_rfl) rfl rfl (by kernel_rfl) (by kernel_rfl) (hS.pick [2]) ?_
                refine K.DW.skip 14 (by kernel_rfl) rfl rfl (by kernel_rfl) (by kernel_rfl) (hS.pick [2]) ?_
                refine K.DW.skip 15 (by kernel_rfl) rfl rfl (by kernel_rfl) (by kernel_rfl) (hS.pick [2]) ?_
                refine K.DW.skip 16 (by kernel_rfl) rfl rfl (by kernel_rfl) (by kernel_rfl) (hS.pick [2]) ?_
                refine K.DW.skip 17 (by kernel_rfl) rfl rfl (by kernel_rfl) (by kernel_rfl) (hS.pick [2]) ?_
                refine K.DW.skip 18 (by kernel_rfl) rfl rfl (by kernel_rfl) (by kernel_rfl) (hS.pick [2]) ?_
                refine K.DW.skip 19 (by kernel_rfl) rfl rfl (by kernel_rfl) (by kernel_rfl) (hS.pick [2]) ?_
                refine K.DW.skip 20 (by kernel_rfl) rfl rfl (by kernel_rfl) (by kernel_rfl) (hS.pick [2]) ?_
                refine K.DW.skip 21 (by kernel_rfl) rfl rfl (by kernel_rfl) (by kernel_rfl) (hS.pick [2]) ?_
                refine K.DW.skip 22 (by kernel_rfl) rfl rfl (by kernel_rfl) (by kernel_rfl) (hS.pick [2]) ?_
                refine K.DW.l 23 rfl (by kernel_rfl) (by kernel_rfl) (K.OW.q rfl (K.QR.k (v := .bool true) (by kernel_rfl)) ?_)
                refine ⟨.inl (hS.pick [2]), ?_⟩
                refine K.DW.l 24 rfl (by kernel_rfl) rfl (K.OW.q rfl (K.QR.k (v := .bool true) (by kernel_rfl)) ?_)
                refine ⟨.inl (hS.pick [2]), ?_⟩
                refine K.DW.done (by kernel_rfl) ?_
                refine K.thn_normal ?_
                refine K.KW.ifT rfl ?_
                -- 12 :19
                refine K.KW.region ?_
                refine K.RW.qs [.int .i64 ((i : Nat) : Int), .int .i64 ((i : Nat) : Int)] (by kernel_rfl) ?_
                refine K.RW.nil ?_
                refine K.blk_normal ?_
                refine K.thn_normal ?_
                -- 9 :16
                refine K.KW.region ?_
                refine K.RW.qs [.int .i64 ((i : Nat) : Int)] (by kernel_rfl) ?_
                refine K.RW.q rfl rfl (K.QR.n64 ((((i : Nat) : Int) : Int) + (1 : Int)) ((i + 1 : Nat) : Int) (by kernel_rfl) (by omega)) ?_
                refine K.RW.qs [.int .i64 ((i + 1 : Nat) : Int)] (by kernel_rfl) ?_
                refine K.RW.nil ?_
                refine K.thn_normal ?_
                refine ⟨_, ?_, i + 1, ((i : Nat) : Int), rfl, ⟨by rfl, by rfl, by rfl, by rfl, by rfl, by rfl, by rfl, by rfl, trivial⟩, (by omega), (hbi.take (.inl hb_22) hb_23 (.inl (by omega))), hS.pick [0, 1, 2, 3]⟩
                omega
              ·  -- no
                refine K.DW.l 10 rfl (by kernel_rfl) (by kernel_rfl) (K.OW.q rfl (K.QR.nice (v := .bool (decide ((b : Int) < (0 : Int)))) (by kernel_rfl) (congrArg Value.bool (decide_eq_false h_24))) ?_)
                refine ⟨.inl (hS.pick [2]), ?_⟩
                refine K.DW.l 11 rfl (by kernel_rfl) (by kernel_rfl) (K.OW.q rfl (K.QR.k (v := .bool false) (by kernel_rfl)) ?_)
                refine ⟨.inl (hS.pick [2]), ?_⟩
                refine K.DW.q 12 (by kernel_rfl) rfl rfl (by kernel_rfl) (by kernel_rfl) (fun w hS => K.QR.k (v := .slice (some ⟨b_20, of_21, none⟩) L.length cap) (by kernel_rfl)) (hS.pick [2]) ?_
                refine K.DW.q 13 (by kernel_rfl) rfl rfl (by kernel_rfl) (by kernel_rfl) (fun w hS => K.QR.k (v := .int .i64 ((i : Nat) : Int)) (by kernel_rfl)) (hS.pick [2]) ?_
                refine K.DW.q 14 (by kernel_rfl) rfl rfl (by kernel_rfl) (by kernel_rfl) (fun w hS => K.QR.ix (of_21 + i * 11) 11 rfl rfl rfl Try.underlying22 (by kernel_rfl) (by omega) (by first | (simp; done) | omega | (simp; omega))) (hS.pick [2]) ?_
                refine K.DW.q 15 (by kernel_rfl) rfl rfl (by kernel_rfl) (by kernel_rfl) (fun w hS => K.QR.k (v := .pointer (some ⟨b_20, of_21 + i * 11 + 8, none⟩)) (by kernel_rfl)) (hS.pick [2]) ?_
                refine K.DW.q 16 (by kernel_rfl) rfl rfl (by kernel_rfl) (by kernel_rfl) (fun w hS => K.QR.ld1 (v := .int .i64 ((L.getD i call0).wh)) rfl rfl (by kernel_rfl) ((hx _ (hS.pick [0])).ld i (by omega) 8 _ rfl)) (hS.pick [2]) ?_
                refine K.DW.q 17 (by kernel_rfl) rfl rfl (by kernel_rfl) (by kernel_rfl) (fun w hS => K.QR.k (v := .slice (some ⟨b_20, of_21, none⟩) L.length cap) (by kernel_rfl)) (hS.pick [2]) ?_
                refine K.DW.l 18 rfl (by kernel_rfl) (by kernel_rfl) (K.OW.q rfl (K.QR.k (v := .int .i64 b) (by kernel_rfl)) ?_)
                refine ⟨.inl (hS.pick [2]), ?_⟩
                refine K.DW.l 19 rfl (by kernel_rfl) (by kernel_rfl) (K.OW.q rfl (K.QR.ix (of_21 + b.toNat * 11) 11 rfl rfl rfl Try.underlying22 (by kernel_rfl) (by omega) (by first | (simp; done) | omega | (simp; omega))) ?_)
                refine ⟨.inl (hS.pick [2]), ?_⟩
                refine K.DW.l 20 rfl (by kernel_rfl) (by kernel_rfl) (K.OW.q rfl (K.QR.k (v := .pointer (some ⟨b_20, of_21 + b.toNat * 11 + 8, none⟩)) (by kernel_rfl)) ?_)
                refine ⟨.inl (hS.pick [2]), ?_⟩
                refine K.DW.l 21 rfl (by kernel_rfl) (by kernel_rfl) (K.OW.q rfl (K.QR.ld1 (v := .int .i64 ((L.getD b.toNat call0).wh)) rfl rfl (by kernel_rfl) ((hx _ (hS.pick [2])).ld b.toNat (by omega) 8 _ rfl)) ?_)
                refine ⟨.inl (hS.pick [2]), ?_⟩
                by_cases h_25 : ((L.getD i call0).wh : Int) < ((L.getD b.toNat call0).wh : Int)
                ·  -- yes
                  refine K.DW.l 22 rfl (by kernel_rfl) (by kernel_rfl) (K.OW.q rfl (K.QR.nice (v := .bool (decide (((L.getD i call0).wh : Int) < ((L.getD b.toNat call0).wh : Int)))) (by kernel_rfl) (congrArg Value.bool (decide_eq_true h_25))) ?_)
                  refine ⟨.inl (hS.pick [2]), ?_⟩
                  refine K.DW.l 23 rfl (by kernel_rfl) (by kernel_rfl) (K.OW.q rfl (K.QR.k (v := .bool true) (by kernel_rfl)) ?_)
                  refine ⟨.inl (hS.pick [2]), ?_⟩
                  refine K.DW.l 24 rfl (by kernel_rfl) rfl (K.OW.q rfl (K.QR.k (v := .bool true) (by kernel_rfl)) ?_)
                  refine ⟨.inl (hS.pick [2]), ?_⟩
                  refine K.DW.done (by kernel_rfl) ?_
                  refine K.thn_normal ?_
                  refine K.KW.ifT rfl ?_
                  -- 12 :19
                  refine K.KW.region ?_
                  refine K.RW.qs [.int .i64 ((i : Nat) : Int), .int .i64 ((i : Nat) : Int)] (by kernel_rfl) ?_
                  refine K.RW.nil ?_
                  refine K.blk_normal ?_
                  refine K.thn_normal ?_
                  -- 9 :16
                  refine K.KW.region ?_
                  refine K.RW.qs [.int .i64 ((i : Nat) : Int)] (by kernel_rfl) ?_
                  refine K.RW.q rfl rfl (K.QR.n64 ((((i : Nat) : Int) : Int) + (1 : Int)) ((i + 1 : Nat) : Int) (by kernel_rfl) (by omega)) ?_
                  refine K.RW.qs [.int .i64 ((i + 1 : Nat) : Int)] (by kernel_rfl) ?_
                  refine K.RW.nil ?_
                  refine K.thn_normal ?_
                  refine ⟨_, ?_, i + 1, ((i : Nat) : Int), rfl, ⟨by rfl, by rfl, by rfl, by rfl, by rfl, by rfl, by rfl, by rfl, trivial⟩, (by omega), (hbi.take (.inl hb_22) hb_23 (.inr (by omega))), hS.pick [0, 1, 2, 3]⟩
                  omega
                ·  -- no
                  refine K.DW.l 22 rfl (by kernel_rfl) (by kernel_rfl) (K.OW.q rfl (K.QR.nice (v := .bool (decide (((L.getD i call0).wh : Int) < ((L.getD b.toNat call0).wh : Int)))) (by kernel_rfl) (congrArg Value.bool (decide_eq_false h_25))) ?_)
                  refine ⟨.inl (hS.pick [2]), ?_⟩
                  refine K.DW.l 23 rfl (by kernel_rfl) (by kernel_rfl) (K.OW.q rfl (K.QR.k (v := .bool false) (by kernel_rfl)) ?_)
                  refine ⟨.inl (hS.pick [2]), ?_⟩
                  refine K.DW.l 24 rfl (by kernel_rfl) rfl (K.OW.q rfl (K.QR.k (v := .bool false) (by kernel_rfl)) ?_)
                  refine ⟨.inl (hS.pick [2]), ?_⟩
                  refine K.DW.done (by kernel_rfl) ?_
                  refine K.thn_normal ?_
                  refine K.KW.ifF rfl ?_
                  refine K.KW.skip ?_
                  refine K.blk_normal ?_
                  refine K.thn_normal ?_
                  -- 9 :16
                  refine K.KW.region ?_
                  refine K.RW.qs [.int .i64 ((i : Nat) : Int)] (by kernel_rfl) ?_
                  refine K.RW.q rfl rfl (K.QR.n64 ((((i : Nat) : Int) : Int) + (1 : Int)) ((i + 1 : Nat) : Int) (by kernel_rfl) (by omega)) ?_
                  refine K.RW.qs [.int .i64 ((i + 1 : Nat) : Int)] (by kernel_rfl) ?_
                  refine K.RW.nil ?_
                  refine K.thn_normal ?_
                  refine ⟨_, ?_, i + 1, b, rfl, ⟨by rfl, by rfl, by rfl, by rfl, by rfl, by rfl, by rfl, by rfl, trivial⟩, (by omega), (hbi.stay (by omega) (by omega)), hS.pick [0, 1, 2, 3]⟩
                  omega
            ·
              refine K.DW.l 6 rfl (by kernel_rfl) (by kernel_rfl) (K.OW.q rfl (K.QR.k (v := .bool false) (by kernel_rfl)) ?_)
              refine ⟨.inl (hS.pick [2]), ?_⟩
              refine K.DW.l 7 rfl (by kernel_rfl) rfl (K.OW.q rfl (K.QR.k (v := .bool false) (by kernel_rfl)) ?_)
              refine ⟨.inl (hS.pick [2]), ?_⟩
              refine K.DW.l 8 rfl (by kernel_rfl) rfl (K.OW.q rfl (K.QR.k (v := .bool false) (by kernel_rfl)) ?_)
              refine ⟨.inl (hS.pick [2]), ?_⟩
              refine K.DW.skip 9 (by kernel_rfl) rfl rfl (by kernel_rfl) (by kernel_rfl) (hS.pick [2]) ?_
              refine K.DW.skip 10 (by kernel_rfl) rfl rfl (by kernel_rfl) (by kernel_rfl) (hS.pick [2]) ?_
              refine K.DW.skip 11 (by kernel_rfl) rfl rfl (by kernel_rfl) (by kernel_rfl) (hS.pick [2]) ?_
              refine K.DW.skip 12 (by kernel_rfl) rfl rfl (by kernel_rfl) (by kernel_rfl) (hS.pick [2]) ?_
              refine K.DW.skip 13 (by kernel_rfl) rfl rfl (by kernel_rfl) (by kernel_rfl) (hS.pick [2]) ?_
              refine K.DW.skip 14 (by kernel_rfl) rfl rfl (by kernel_rfl) (by kernel_rfl) (hS.pick [2]) ?_
              refine K.DW.skip 15 (by kernel_rfl) rfl rfl (by kernel_rfl) (by kernel_rfl) (hS.pick [2]) ?_
              refine K.DW.skip 16 (by kernel_rfl) rfl rfl (by kernel_rfl) (by kernel_rfl) (hS.pick [2]) ?_
              refine K.DW.skip 17 (by kernel_rfl) rfl rfl (by kernel_rfl) (by kernel_rfl) (hS.pick [2]) ?_
              refine K.DW.skip 18 (by kernel_rfl) rfl rfl (by kernel_rfl) (by kernel_rfl) (hS.pick [2]) ?_
              refine K.DW.skip 19 (by kernel_rfl) rfl rfl (by kernel_rfl) (by kernel_rfl) (hS.pick [2]) ?_
              refine K.DW.skip 20 (by kernel_rfl) rfl rfl (by kernel_rfl) (by kernel_rfl) (hS.pick [2]) ?_
              refine K.DW.skip 21 (by kernel_rfl) rfl rfl (by kernel_rfl) (by kernel_rfl) (hS.pick [2]) ?_
              refine K.DW.skip 22 (by kernel_rfl) rfl rfl (by kernel_rfl) (by kernel_rfl) (hS.pick [2]) ?_
              refine K.DW.skip 23 (by kernel_rfl) rfl rfl (by kernel_rfl) (by kernel_rfl) (hS.pick [2]) ?_
              refine K.DW.l 24 rfl (by kernel_rfl) rfl (K.OW.q rfl (K.QR.k (v := .bool false) (by kernel_rfl)) ?_)
              refine ⟨.inl (hS.pick [2]), ?_⟩
              refine K.DW.done (by kernel_rfl) ?_
              refine K.thn_normal ?_
              refine K.KW.ifF rfl ?_
              refine K.KW.skip ?_
              refine K.blk_normal ?_
              refine K.thn_normal ?_
              -- 9 :16
              refine K.KW.region ?_
              refine K.RW.qs [.int .i64 ((i : Nat) : Int)] (by kernel_rfl) ?_
              refine K.RW.q rfl rfl (K.QR.n64 ((((i : Nat) : Int) : Int) + (1 : Int)) ((i + 1 : Nat) : Int) (by kernel_rfl) (by omega)) ?_
              refine K.RW.qs [.int .i64 ((i + 1 : Nat) : Int)] (by kernel_rfl) ?_
              refine K.RW.nil ?_
              refine K.thn_normal ?_
              refine ⟨_, ?_, i + 1, b, rfl, ⟨by rfl, by rfl, by rfl, by rfl, by rfl, by rfl, by rfl, by rfl, trivial⟩, (by omega), (hbi.skip (.inr hb_23)), hS.pick [0, 1, 2, 3]⟩
              omega
          ·
            refine K.RW.qs [.bool false, .bool false, .slice (some ⟨b_20, of_21, none⟩) L.length cap, .int .i64 ((i : Nat) : Int)] (by kernel_rfl) ?_
            refine K.RW.q rfl (by kernel_rfl) (K.QR.ix (of_21 + i * 11) 11 rfl rfl rfl Try.underlying22 (by kernel_rfl) (by omega) (by first | (simp; done) | omega | (simp; omega))) ?_
            refine K.RW.qs [.pointer (some ⟨b_20, of_21 + i * 11 + 10, none⟩)] (by kernel_rfl) ?_
            refine K.RW.q rfl (by kernel_rfl) (K.QR.ld1 (v := .bool ((L.getD i call0).kp)) rfl rfl (by kernel_rfl) ((hx _ (hS.pick [2])).ld i (by omega) 10 _ rfl)) ?_
            cases hb_26 : (L.getD i call0).kp
            ·
              refine K.RW.qs [.bool false, .bool false] (by kernel_rfl) ?_
              refine K.RW.nil ?_
              refine K.thn_normal ?_
              refine K.KW.seq ?_
              -- 11 :18
              refine K.KW.gdrawn [] hS (by kernel_rfl) ?_
              clear hS; intro w hS
              refine K.DW.l 0 rfl (by kernel_rfl) rfl (K.OW.q rfl (K.QR.k (v := .bool false) (by kernel_rfl)) ?_)
              refine ⟨.inl (hS.pick []), ?_⟩
              refine K.DW.l 1 rfl (by kernel_rfl) rfl (K.OW.q rfl (K.QR.k (v := .bool false) (by kernel_rfl)) ?_)
              refine ⟨.inl (hS.pick []), ?_⟩
              refine K.DW.skip 2 (by kernel_rfl) rfl rfl (by kernel_rfl) (by kernel_rfl) (hS.pick []) ?_
              refine K.DW.skip 3 (by kernel_rfl) rfl rfl (by kernel_rfl) (by kernel_rfl) (hS.pick []) ?_
              refine K.DW.skip 4 (by kernel_rfl) rfl rfl (by kernel_rfl) (by kernel_rfl) (hS.pick []) ?_
              refine K.DW.skip 5 (by kernel_rfl) rfl rfl (by kernel_rfl) (by kernel_rfl) (hS.pick []) ?_
              refine K.DW.skip 6 (by kernel_rfl) rfl rfl (by kernel_rfl) (by kernel_rfl) (hS.pick []) ?_
              refine K.DW.l 7 rfl (by kernel_rfl) rfl (K.OW.q rfl (K.QR.k (v := .bool false) (by kernel_rfl)) ?_)
              refine ⟨.inl (hS.pick []), ?_⟩
              refine K.DW.l 8 rfl (by kernel_rfl) rfl (K.OW.q rfl (K.QR.k (v := .bool false) (by kernel_rfl)) ?_)
              refine ⟨.inl (hS.pick []), ?_⟩
              refine K.DW.skip 9 (by kernel_rfl) rfl rfl (by kernel_rfl) (by kernel_rfl) (hS.pick []) ?_
              refine K.DW.skip 10 (by kernel_rfl) rfl rfl (by kernel_rfl) (by kernel_rfl) (hS.pick []) ?_
              refine K.DW.skip 11 (by kernel_rfl) rfl rfl (by kernel_rfl) (by kernel_rfl) (hS.pick []) ?_
              refine K.DW.skip 12 (by kernel_rfl) rfl rfl (by kernel_rfl) (by kernel_rfl) (hS.pick []) ?_
              refine K.DW.skip 13 (by kernel_rfl) rfl rfl (by kernel_rfl) (by kernel_rfl) (hS.pick []) ?_
              refine K.DW.skip 14 (by kernel_rfl) rfl rfl (by kernel_rfl) (by kernel_rfl) (hS.pick []) ?_
              refine K.DW.skip 15 (by kernel_rfl) rfl rfl (by kernel_rfl) (by kernel_rfl) (hS.pick []) ?_
              refine K.DW.skip 16 (by kernel_rfl) rfl rfl (by kernel_rfl) (by kernel_rfl) (hS.pick []) ?_
              refine K.DW.skip 17 (by kernel_rfl) rfl rfl (by kernel_rfl) (by kernel_rfl) (hS.pick []) ?_
              refine K.DW.skip 18 (by kernel_rfl) rfl rfl (by kernel_rfl) (by kernel_rfl) (hS.pick []) ?_
              refine K.DW.skip 19 (by kernel_rfl) rfl rfl (by kernel_rfl) (by kernel_rfl) (hS.pick []) ?_
              refine K.DW.skip 20 (by kernel_rfl) rfl rfl (by kernel_rfl) (by kernel_rfl) (hS.pick []) ?_
              refine K.DW.skip 21 (by kernel_rfl) rfl rfl (by kernel_rfl) (by kernel_rfl) (hS.pick []) ?_
              refine K.DW.skip 22 (by kernel_rfl) rfl rfl (by kernel_rfl) (by kernel_rfl) (hS.pick []) ?_
              refine K.DW.skip 23 (by kernel_rfl) rfl rfl (by kernel_rfl) (by kernel_rfl) (hS.pick []) ?_
              refine K.DW.l 24 rfl (by kernel_rfl) rfl (K.OW.q rfl (K.QR.k (v := .bool false) (by kernel_rfl)) ?_)
              refine ⟨.inl (hS.pick []), ?_⟩
              refine K.DW.done (by kernel_rfl) ?_
              refine K.thn_normal ?_
              refine K.KW.ifF rfl ?_
              refine K.KW.skip ?_
              refine K.blk_normal ?_
              refine K.thn_normal ?_
              -- 9 :16
              refine K.KW.region ?_
              refine K.RW.qs [.int .i64 ((i : Nat) : Int)] (by kernel_rfl) ?_
              refine K.RW.q rfl rfl (K.QR.n64 ((((i : Nat) : Int) : Int) + (1 : Int)) ((i + 1 : Nat) : Int) (by kernel_rfl) (by omega)) ?_
              refine K.RW.qs [.int .i64 ((i + 1 : Nat) : Int)] (by kernel_rfl) ?_
              refine K.RW.nil ?_
              refine K.thn_normal ?_
              refine ⟨_, ?_, i + 1, b, rfl, ⟨by rfl, by rfl, by rfl, by rfl, by rfl, by rfl, by rfl, by rfl, trivial⟩, (by omega), (hbi.skip (.inl (fun hh => by rcases hh with hh | hh <;> simp_all))), hS.pick [0, 1, 2, 3]⟩
              omega
            ·
              refine K.RW.qs [.bool true, .bool true] (by kernel_rfl) ?_
              refine K.RW.nil ?_
              refine K.thn_normal ?_
              refine K.KW.seq ?_
              -- 11 :18
              refine K.KW.gdrawn [2] hS (by kernel_rfl) ?_
              clear hS; intro w hS
              refine K.DW.l 0 rfl (by kernel_rfl) rfl (K.OW.q rfl (K.QR.k (v := .bool true) (by kernel_rfl)) ?_)
              refine ⟨.inl (hS.pick [2]), ?_⟩
              refine K.DW.l 1 rfl (by kernel_rfl) rfl (K.OW.q rfl (K.QR.k (v := .bool true) (by kernel_rfl)) ?_)
              refine ⟨.inl (hS.pick [2]), ?_⟩
              refine K.DW.q 2 (by kernel_rfl) rfl rfl (by kernel_rfl) (by kernel_rfl) (fun w hS => K.QR.k (v := .slice (some ⟨r_1, 0, none⟩) L.length L.length) (by kernel_rfl)) (hS.pick [2]) ?_
              refine K.DW.l 3 rfl (by kernel_rfl) (by kernel_rfl) (K.OW.q rfl (K.QR.k (v := .int .i64 ((i : Nat) : Int)) (by kernel_rfl)) ?_)
              refine ⟨.inl (hS.pick [2]), ?_⟩
              refine K.DW.l 4 rfl (by kernel_rfl) (by kernel_rfl) (K.OW.q rfl (K.QR.ix i 1 rfl rfl rfl Try.underlying54 (by kernel_rfl) (by omega) (by first | (simp; done) | omega | (simp; omega))) ?_)
              refine ⟨.inl (hS.pick [2]), ?_⟩
              refine K.DW.l 5 rfl (by kernel_rfl) (by kernel_rfl) (K.OW.q rfl (K.QR.ld1 (v := .bool (U.getD i false)) rfl rfl (by kernel_rfl) (K.Own.atS (c := cBool) (d := false) (fun _ => rfl) (hS.ownr 1 rfl x_13) hdo.1 i (by omega))) ?_)
              refine ⟨.inl (hS.pick [2]), ?_⟩
              cases hb_27 : U.getD i false
              ·
                refine K.DW.l 6 rfl (by kernel_rfl) (by kernel_rfl) (K.OW.q rfl (K.QR.k (v := .bool true) (by kernel_rfl)) ?_)
                refine ⟨.inl (hS.pick [2]), ?_⟩
                refine K.DW.l 7 rfl (by kernel_rfl) rfl (K.OW.q rfl (K.QR.k (v := .bool true) (by kernel_rfl)) ?_)
                refine ⟨.inl (hS.pick [2]), ?_⟩
                refine K.DW.l 8 rfl (by kernel_rfl) rfl (K.OW.q rfl (K.QR.k (v := .bool true) (by kernel_rfl)) ?_)
                refine ⟨.inl (hS.pick [2]), ?_⟩
                refine K.DW.l 9 rfl (by kernel_rfl) (by kernel_rfl) (K.OW.q rfl (K.QR.k (v := .int .i64 b) (by kernel_rfl)) ?_)
                refine ⟨.inl (hS.pick [2]), ?_⟩
                by_cases h_28 : (b : Int) < (0 : Int)
                ·  -- yes
                  refine K.DW.l 10 rfl (by kernel_rfl) (by kernel_rfl) (K.OW.q rfl (K.QR.nice (v := .bool (decide ((b : Int) < (0 : Int)))) (by kernel_rfl) (congrArg Value.bool (decide_eq_true h_28))) ?_)
                  refine ⟨.inl (hS.pick [2]), ?_⟩
                  refine K.DW.l 11 rfl (by kernel_rfl) (by kernel_rfl) (K.OW.q rfl (K.QR.k (v := .bool true) (by kernel_rfl)) ?_)
                  refine ⟨.inl (hS.pick [2]), ?_⟩
                  refine K.DW.skip 12 (by kernel_rfl) rfl rfl (by kernel_rfl) (by kernel_rfl) (hS.pick [2]) ?_
                  refine K.DW.skip 13 (by kernel_rfl) rfl rfl (by kernel_rfl) (by kernel_rfl) (hS.pick [2]) ?_
                  refine K.DW.skip 14 (by kernel_rfl) rfl rfl (by kernel_rfl) (by kernel_rfl) (hS.pick [2]) ?_
                  refine K.DW.skip 15 (by kernel_rfl) rfl rfl (by kernel_rfl) (by kernel_rfl) (hS.pick [2]) ?_
                  refine K.DW.skip 16 (by kernel_rfl) rfl rfl (by kernel_rfl) (by kernel_rfl) (hS.pick [2]) ?_
                  refine K.DW.skip 17 (by kernel_rfl) rfl rfl (by kernel_rfl) (by kernel_rfl) (hS.pick [2]) ?_
                  refine K.DW.skip 18 (by kernel_rfl) rfl rfl (by kernel_rfl) (by kernel_rfl) (hS.pick [2]) ?_
                  refine K.DW.skip 19 (by kernel_rfl) rfl rfl (by kernel_rfl) (by kernel_rfl) (hS.pick [2]) ?_
                  refine K.DW.skip 20 (by kernel_rfl) rfl rfl (by kernel_rfl) (by kernel_rfl) (hS.pick [2]) ?_
                  refine K.DW.skip 21 (by kernel_rfl) rfl rfl (by kernel_rfl) (by kernel_rfl) (hS.pick [2]) ?_
                  refine K.DW.skip 22 (by kernel_rfl) rfl rfl (by kernel_rfl) (by kernel_rfl) (hS.pick [2]) ?_
                  refine K.DW.l 23 rfl (by kernel_rfl) (by kernel_rfl) (K.OW.q rfl (K.QR.k (v := .bool true) (by kernel_rfl)) ?_)
                  refine ⟨.inl (hS.pick [2]), ?_⟩
                  refine K.DW.l 24 rfl (by kernel_rfl) rfl (K.OW.q rfl (K.QR.k (v := .bool true) (by kernel_rfl)) ?_)
                  refine ⟨.inl (hS.pick [2]), ?_⟩
                  refine K.DW.done (by kernel_rfl) ?_
                  refine K.thn_normal ?_
                  refine K.KW.ifT rfl ?_
                  -- 12 :19
                  refine K.KW.region ?_
                  refine K.RW.qs [.int .i64 ((i : Nat) : Int), .int .i64 ((i : Nat) : Int)] (by kernel_rfl) ?_
                  refine K.RW.nil ?_
                  refine K.blk_normal ?_
                  refine K.thn_normal ?_
                  -- 9 :16
                  refine K.KW.region ?_
                  refine K.RW.qs [.int .i64 ((i : Nat) : Int)] (by kernel_rfl) ?_
                  refine K.RW.q rfl rfl (K.QR.n64 ((((i : Nat) : Int) : Int) + (1 : Int)) ((i + 1 : Nat) : Int) (by kernel_rfl) (by omega)) ?_
                  refine K.RW.qs [.int .i64 ((i + 1 : Nat) : Int)] (by kernel_rfl) ?_
                  refine K.RW.nil ?_
                  refine K.thn_normal ?_
                  refine ⟨_, ?_, i + 1, ((i : Nat) : Int), rfl, ⟨by rfl, by rfl, by rfl, by rfl, by rfl, by rfl, by rfl, by rfl, trivial⟩, (by omega), (hbi.take (.inr hb_26) hb_27 (.inl (by omega))), hS.pick [0, 1, 2, 3]⟩
                  omega
                ·  -- no
                  refine K.DW.l 10 rfl (by kernel_rfl) (by kernel_rfl) (K.OW.q rfl (K.QR.nice (v := .bool (decide ((b : Int) < (0 : Int)))) (by kernel_rfl) (congrArg Value.bool (decide_eq_false h_28))) ?_)
                  refine ⟨.inl (hS.pick [2]), ?_⟩
                  refine K.DW.l 11 rfl (by kernel_rfl) (by kernel_rfl) (K.OW.q rfl (K.QR.k (v := .bool false) (by kernel_rfl)) ?_)
                  refine ⟨.inl (hS.pick [2]), ?_⟩
                  refine K.DW.q 12 (by kernel_rfl) rfl rfl (by kernel_rfl) (by kernel_rfl) (fun w hS => K.QR.k (v := .slice (some ⟨b_20, of_21, none⟩) L.length cap) (by kernel_rfl)) (hS.pick [2]) ?_
                  refine K.DW.q 13 (by kernel_rfl) rfl rfl (by kernel_rfl) (by kernel_rfl) (fun w hS => K.QR.k (v := .int .i64 ((i : Nat) : Int)) (by kernel_rfl)) (hS.pick [2]) ?_
                  refine K.DW.q 14 (by kernel_rfl) rfl rfl (by kernel_rfl) (by kernel_rfl) (fun w hS => K.QR.ix (of_21 + i * 11) 11 rfl rfl rfl Try.underlying22 (by kernel_rfl) (by omega) (by first | (simp; done) | omega | (simp; omega))) (hS.pick [2]) ?_
                  refine K.DW.q 15 (by kernel_rfl) rfl rfl (by kernel_rfl) (by kernel_rfl) (fun w hS => K.QR.k (v := .pointer (some ⟨b_20, of_21 + i * 11 + 8, none⟩)) (by kernel_rfl)) (hS.pick [2]) ?_
                  refine K.DW.q 16 (by kernel_rfl) rfl rfl (by kernel_rfl) (by kernel_rfl) (fun w hS => K.QR.ld1 (v := .int .i64 ((L.getD i call0).wh)) rfl rfl (by kernel_rfl) ((hx _ (hS.pick [0])).ld i (by omega) 8 _ rfl)) (hS.pick [2]) ?_
                  refine K.DW.q 17 (by kernel_rfl) rfl rfl (by kernel_rfl) (by kernel_rfl) (fun w hS => K.QR.k (v := .slice (some ⟨b_20, of_21, none⟩) L.length cap) (by kernel_rfl)) (hS.pick [2]) ?_
                  refine K.DW.l 18 rfl (by kernel_rfl) (by kernel_rfl) (K.OW.q rfl (K.QR.k (v := .int .i64 b) (by kernel_rfl)) ?_)
                  refine ⟨.inl (hS.pick [2]), ?_⟩
                  refine K.DW.l 19 rfl (by kernel_rfl) (by kernel_rfl) (K.OW.q rfl (K.QR.ix (of_21 + b.toNat * 11) 11 rfl rfl rfl Try.underlying22 (by kernel_rfl) (by omega) (by first | (simp; done) | omega | (simp; omega))) ?_)
                  refine ⟨.inl (hS.pick [2]), ?_⟩
                  refine K.DW.l 20 rfl (by kernel_rfl) (by kernel_rfl) (K.OW.q rfl (K.QR.k (v := .pointer (some ⟨b_20, of_21 + b.toNat * 11 + 8, none⟩)) (by kernel_rfl)) ?_)
                  refine ⟨.inl (hS.pick [2]), ?_⟩
                  refine K.DW.l 21 rfl (by kernel_rfl) (by kernel_rfl) (K.OW.q rfl (K.QR.ld1 (v := .int .i64 ((L.getD b.toNat call0).wh)) rfl rfl (by kernel_rfl) ((hx _ (hS.pick [2])).ld b.toNat (by omega) 8 _ rfl)) ?_)
                  refine ⟨.inl (hS.pick [2]), ?_⟩
                  by_cases h_29 : ((L.getD i call0).wh : Int) < ((L.getD b.toNat call0).wh : Int)
                  ·  -- yes
                    refine K.DW.l 22 rfl (by kernel_rfl) (by kernel_rfl) (K.OW.q rfl (K.QR.nice (v := .bool (decide (((L.getD i call0).wh : Int) < ((L.getD b.toNat call0).wh : Int)))) (by kernel_rfl) (congrArg Value.bool (decide_eq_true h_29))) ?_)
                    refine ⟨.inl (hS.pick [2]), ?_⟩
                    refine K.DW.l 23 rfl (by kernel_rfl) (by kernel_rfl) (K.OW.q rfl (K.QR.k (v := .bool true) (by kernel_rfl)) ?_)
                    refine ⟨.inl (hS.pick [2]), ?_⟩
                    refine K.DW.l 24 rfl (by kernel_rfl) rfl (K.OW.q rfl (K.QR.k (v := .bool true) (by kernel_rfl)) ?_)
                    refine ⟨.inl (hS.pick [2]), ?_⟩
                    refine K.DW.done (by kernel_rfl) ?_
                    refine K.thn_normal ?_
                    refine K.KW.ifT rfl ?_
                    -- 12 :19
                    refine K.KW.region ?_
                    refine K.RW.qs [.int .i64 ((i : Nat) : Int), .int .i64 ((i : Nat) : Int)] (by kernel_rfl) ?_
                    refine K.RW.nil ?_
                    refine K.blk_normal ?_
                    refine K.thn_normal ?_
                    -- 9 :16
                    refine K.KW.region ?_
                    refine K.RW.qs [.int .i64 ((i : Nat) : Int)] (by kernel_rfl) ?_
                    refine K.RW.q rfl rfl (K.QR.n64 ((((i : Nat) : Int) : Int) + (1 : Int)) ((i + 1 : Nat) : Int) (by kernel_rfl) (by omega)) ?_
                    refine K.RW.qs [.int .i64 ((i + 1 : Nat) : Int)] (by kernel_rfl) ?_
                    refine K.RW.nil ?_
                    refine K.thn_normal ?_
                    refine ⟨_, ?_, i + 1, ((i : Nat) : Int), rfl, ⟨by rfl, by rfl, by rfl, by rfl, by rfl, by rfl, by rfl, by rfl, trivial⟩, (by omega), (hbi.take (.inr hb_26) hb_27 (.inr (by omega))), hS.pick [0, 1, 2, 3]⟩
                    omega
                  ·  -- no
                    refine K.DW.l 22 rfl (by kernel_rfl) (by kernel_rfl) (K.OW.q rfl (K.QR.nice (v := .bool (decide (((L.getD i call0).wh : Int) < ((L.getD b.toNat call0).wh : Int)))) (by kernel_rfl) (congrArg Value.bool (decide_eq_false h_29))) ?_)
                    refine ⟨.inl (hS.pick [2]), ?_⟩
                    refine K.DW.l 23 rfl (by kernel_rfl) (by kernel_rfl) (K.OW.q rfl (K.QR.k (v := .bool false) (by kernel_rfl)) ?_)
                    refine ⟨.inl (hS.pick [2]), ?_⟩
                    refine K.DW.l 24 rfl (by kernel_rfl) rfl (K.OW.q rfl (K.QR.k (v := .bool false) (by kernel_rfl)) ?_)
                    refine ⟨.inl (hS.pick [2]), ?_⟩
                    refine K.DW.done (by kernel_rfl) ?_
                    refine K.thn_normal ?_
                    refine K.KW.ifF rfl ?_
                    refine K.KW.skip ?_
                    refine K.blk_normal ?_
                    refine K.thn_normal ?_
                    -- 9 :16
                    refine K.KW.region ?_
                    refine K.RW.qs [.int .i64 ((i : Nat) : Int)] (by kernel_rfl) ?_
                    refine K.RW.q rfl rfl (K.QR.n64 ((((i : Nat) : Int) : Int) + (1 : Int)) ((i + 1 : Nat) : Int) (by kernel_rfl) (by omega)) ?_
                    refine K.RW.qs [.int .i64 ((i + 1 : Nat) : Int)] (by kernel_rfl) ?_
                    refine K.RW.nil ?_
                    refine K.thn_normal ?_
                    refine ⟨_, ?_, i + 1, b, rfl, ⟨by rfl, by rfl, by rfl, by rfl, by rfl, by rfl, by rfl, by rfl, trivial⟩, (by omega), (hbi.stay (by omega) (by omega)), hS.pick [0, 1, 2, 3]⟩
                    omega
              ·
                refine K.DW.l 6 rfl (by kernel_rfl) (by kernel_rfl) (K.OW.q rfl (K.QR.k (v := .bool false) (by kernel_rfl)) ?_)
                refine ⟨.inl (hS.pick [2]), ?_⟩
                refine K.DW.l 7 rfl (by kernel_rfl) rfl (K.OW.q rfl (K.QR.k (v := .bool false) (by kernel_rfl)) ?_)
                refine ⟨.inl (hS.pick [2]), ?_⟩
                refine K.DW.l 8 rfl (by kernel_rfl) rfl (K.OW.q rfl (K.QR.k (v := .bool false) (by kernel_rfl)) ?_)
                refine ⟨.inl (hS.pick [2]), ?_⟩
                refine K.DW.skip 9 (by kernel_rfl) rfl rfl (by kernel_rfl) (by kernel_rfl) (hS.pick [2]) ?_
                refine K.DW.skip 10 (by kernel_rfl) rfl rfl (by kernel_rfl) (by kernel_rfl) (hS.pick [2]) ?_
                refine K.DW.skip 11 (by kernel_rfl) rfl rfl (by kernel_rfl) (by kernel_rfl) (hS.pick [2]) ?_
                refine K.DW.skip 12 (by kernel_rfl) rfl rfl (by kernel_rfl) (by kernel_rfl) (hS.pick [2]) ?_
                refine K.DW.skip 13 (by kernel_rfl) rfl rfl (by kernel_rfl) (by kernel_rfl) (hS.pick [2]) ?_
                refine K.DW.skip 14 (by kernel_rfl) rfl rfl (by kernel_rfl) (by kernel_rfl) (hS.pick [2]) ?_
                refine K.DW.skip 15 (by kernel_rfl) rfl rfl (by kernel_rfl) (by kernel_rfl) (hS.pick [2]) ?_
                refine K.DW.skip 16 (by kernel_rfl) rfl rfl (by kernel_rfl) (by kernel_rfl) (hS.pick [2]) ?_
                refine K.DW.skip 17 (by kernel_rfl) rfl rfl (by kernel_rfl) (by kernel_rfl) (hS.pick [2]) ?_
                refine K.DW.skip 18 (by kernel_rfl) rfl rfl (by kernel_rfl) (by kernel_rfl) (hS.pick [2]) ?_
                refine K.DW.skip 19 (by kernel_rfl) rfl rfl (by kernel_rfl) (by kernel_rfl) (hS.pick [2]) ?_
                refine K.DW.skip 20 (by kernel_rfl) rfl rfl (by kernel_rfl) (by kernel_rfl) (hS.pick [2]) ?_
                refine K.DW.skip 21 (by kernel_rfl) rfl rfl (by kernel_rfl) (by kernel_rfl) (hS.pick [2]) ?_
                refine K.DW.skip 22 (by kernel_rfl) rfl rfl (by kernel_rfl) (by kernel_rfl) (hS.pick [2]) ?_
                refine K.DW.skip 23 (by kernel_rfl) rfl rfl (by kernel_rfl) (by kernel_rfl) (hS.pick [2]) ?_
                refine K.DW.l 24 rfl (by kernel_rfl) rfl (K.OW.q rfl (K.QR.k (v := .bool false) (by kernel_rfl)) ?_)
                refine ⟨.inl (hS.pick [2]), ?_⟩
                refine K.DW.done (by kernel_rfl) ?_
                refine K.thn_normal ?_
                refine K.KW.ifF rfl ?_
                refine K.KW.skip ?_
                refine K.blk_normal ?_
                refine K.thn_normal ?_
                -- 9 :16
                refine K.KW.region ?_
                refine K.RW.qs [.int .i64 ((i : Nat) : Int)] (by kernel_rfl) ?_
                refine K.RW.q rfl rfl (K.QR.n64 ((((i : Nat) : Int) : Int) + (1 : Int)) ((i + 1 : Nat) : Int) (by kernel_rfl) (by omega)) ?_
                refine K.RW.qs [.int .i64 ((i + 1 : Nat) : Int)] (by kernel_rfl) ?_
                refine K.RW.nil ?_
                refine K.thn_normal ?_
                refine ⟨_, ?_, i + 1, b, rfl, ⟨by rfl, by rfl, by rfl, by rfl, by rfl, by rfl, by rfl, by rfl, trivial⟩, (by omega), (hbi.skip (.inr hb_27)), hS.pick [0, 1, 2, 3]⟩
                omega
        ·  -- no
          refine K.RW.q rfl rfl (K.QR.nice (v := .bool (decide ((((i : Nat) : Int) : Int) < (((L.length : Nat) : Int) : Int)))) (by kernel_rfl) (congrArg Value.bool (decide_eq_false h_19))) ?_
          refine K.RW.nil ?_
          refine K.thn_normal ?_
          refine K.KW.ifF rfl ?_
          refine K.KW.exit ?_
          refine K.thn_exit ?_
          refine K.thn_exit ?_
          refine K.blk_hit ?_
          refine K.thn_normal ?_
          refine K.KW.seq ?_
          -- 13 :22
          refine K.KW.region ?_
          refine K.RW.qs [.int .i64 b] (by kernel_rfl) ?_
          by_cases h_30 : (b : Int) ≥ (0 : Int)
          ·  -- yes
            refine K.RW.q rfl rfl (K.QR.nice (v := .bool (decide ((b : Int) ≥ (0 : Int)))) (by kernel_rfl) (congrArg Value.bool (decide_eq_true h_30))) ?_
            refine K.RW.nil ?_
            refine K.thn_normal ?_
            refine K.KW.ifT rfl ?_
            refine K.KW.seq ?_
            -- 14 :23
            have hbv : 0 ≤ b ∧ b < (L.length : Int) := by rcases hbi with ⟨e, _⟩ | ⟨e1, e2, _⟩ <;> omega
            have hul := hdo.len
            obtain ⟨b_31, of_32, rfl, _⟩ := (hx _ (hS.pick [2])).at_ (by omega)
            refine K.KW.region ?_
            refine K.RW.qs [.slice (some ⟨r_1, 0, none⟩) L.length L.length, .int .i64 b] (by kernel_rfl) ?_
            refine K.RW.q rfl rfl (K.QR.ix b.toNat 1 rfl rfl rfl Try.underlying54 (by kernel_rfl) (by omega) (by first | (simp; done) | omega | (simp; omega))) ?_
            refine K.RW.l rfl (K.OW.grst 1 b.toNat [.bool true] (((U.set b.toNat true)).flatMap cBool) hS x_13 ?_ (by show _ + 1 ≤ _; omega) (K.set1 (c := cBool) U b.toNat true (by have := hdo.1; omega)))
            clear hS; intro w l_33 o_34 hS
            have ln_35 : ((U.set b.toNat true)).length = _ := (List.length_set).trans hdo.1
            replace hS : K.Sat w0 [o1, l_33, gx, fr] w := hS
            refine K.RW.nil ?_
            refine K.thn_normal ?_
            -- 15 :24
            refine K.KW.region ?_
            refine K.RW.qs [.slice q1 o.length c1, .int .i64 b] (by kernel_rfl) ?_
            refine K.RW.l rfl (K.OW.gbs [(0, .int .i64 b)] [.int .i64 b] hS (fun w => K.bs_run (P := Try.prog) w 23 3 1 _ _ Try.underlying23 (by kernel_rfl)) ?_)
            clear hS; intro w r_36 g_37 hg_38 hS
            refine K.RW.l rfl (K.OW.gapp (P := Try.prog) (xs := (o).flatMap cI64) (z := .int .i64 0) (size := 1) (bytes := 8) 1 [.int .i64 b] hS x_12 ?_ (fun j u hj => (by rw [Nat.zero_add]; exact (hS.blk 0 rfl hg_38).cell hj)) (K.one_cells (by rfl)) (by rfl) Try.underlying23 (by kernel_rfl) rfl (by decide) (by unfold maxLen; omega) (by omega))
            clear hS; intro a_39 cap_40 w l_41 o_42 hS
            have ln_43 : ((o ++ [(b : Int)])).length = o.length + 1 := by rw [List.length_append]; rfl
            have o_42c := K.OwnG.cast (xs' := ((o ++ [(b : Int)])).flatMap cI64) o_42 rfl (K.fl_snoc cI64 o (b : Int) rfl)
            replace hS : K.Sat w0 [g_37, l_41, l_33, gx, fr] w := hS
            refine K.RW.qs [.slice a_39 (o.length + 1) cap_40] (by kernel_rfl) ?_
            refine K.RW.nil ?_
            refine K.blk_normal ?_
            refine K.thn_normal ?_
            -- 5 :14
            refine K.KW.region ?_
            refine K.RW.qs [.int .i64 ((n : Nat) : Int)] (by kernel_rfl) ?_
            refine K.RW.q rfl rfl (K.QR.n64 ((((n : Nat) : Int) : Int) + (1 : Int)) ((n + 1 : Nat) : Int) (by kernel_rfl) (by omega)) ?_
            refine K.RW.qs [.int .i64 ((n + 1 : Nat) : Int)] (by kernel_rfl) ?_
            refine K.RW.nil ?_
            refine K.thn_normal ?_
            refine ⟨_, ?_, n + 1, (o ++ [(b : Int)]), (U.set b.toNat true), a_39, cap_40, l_41, l_33, rfl, ⟨by rfl, by rfl, congrArg (fun m_ => Value.slice a_39 m_ cap_40) (by first | rfl | (rw [List.length_append]; rfl) : o.length + 1 = ((o ++ [(b : Int)])).length), by rfl, by rfl, by rfl, trivial⟩, (by omega), (by first | omega | (rw [List.length_append]; simp; omega)), (hdo.put (by rw [show L.length = i by omega]; exact hbi) (by omega)), (K.OwnG.cast o_42c (by first | rfl | (rw [List.length_append]; rfl)) rfl), o_34, hS.pick [1, 2, 3, 4]⟩
            omega
          ·  -- no
            refine K.RW.q rfl rfl (K.QR.nice (v := .bool (decide ((b : Int) ≥ (0 : Int)))) (by kernel_rfl) (congrArg Value.bool (decide_eq_false h_30))) ?_
            refine K.RW.nil ?_
            refine K.thn_normal ?_
            refine K.KW.ifF rfl ?_
            refine K.KW.skip ?_
            refine K.blk_normal ?_
            refine K.thn_normal ?_
            -- 5 :14
            refine K.KW.region ?_
            refine K.RW.qs [.int .i64 ((n : Nat) : Int)] (by kernel_rfl) ?_
            refine K.RW.q rfl rfl (K.QR.n64 ((((n : Nat) : Int) : Int) + (1 : Int)) ((n + 1 : Nat) : Int) (by kernel_rfl) (by omega)) ?_
            refine K.RW.qs [.int .i64 ((n + 1 : Nat) : Int)] (by kernel_rfl) ?_
            refine K.RW.nil ?_
            refine K.thn_normal ?_
            refine ⟨_, ?_, n + 1, o, U, q1, c1, o1, u1, rfl, ⟨by rfl, by rfl, congrArg (fun m_ => Value.slice q1 m_ c1) (by first | rfl | (rw [List.length_append]; rfl) : o.length = (o).length), by rfl, by rfl, by rfl, trivial⟩, (by omega), (by first | omega | (rw [List.length_append]; simp; omega)), (hdo.stop (by rw [show L.length = i by omega]; exact hbi) (by omega)), (K.OwnG.cast x_12 (by first | rfl | (rw [List.length_append]; rfl)) rfl), x_13, hS.pick [0, 1, 2, 3]⟩
            omega
    ·  -- no
      refine K.RW.q rfl rfl (K.QR.nice (v := .bool (decide ((((n : Nat) : Int) : Int) < (((L.length : Nat) : Int) : Int)))) (by kernel_rfl) (congrArg Value.bool (decide_eq_false h_14))) ?_
      refine K.RW.nil ?_
      refine K.thn_normal ?_
      refine K.KW.ifF rfl ?_
      refine K.KW.exit ?_
      refine K.thn_exit ?_
      refine K.thn_exit ?_
      refine K.blk_hit ?_
      refine K.thn_normal ?_
      refine K.KW.seq ?_
      -- 16 :27
      refine K.KW.region ?_
      refine K.RW.qs [.slice q1 o.length c1, .slice q1 o.length c1] (by kernel_rfl) ?_
      refine K.RW.nil ?_
      refine K.thn_normal ?_
      refine K.KW.ret ?_
      refine ⟨.inr rfl, rfl, (.slice q1 o.length c1), K.res1 rfl rfl, [gx, o1], ?_, hS.pick [2, 0, 3]⟩
      exact ⟨_, _, _, _, rfl, rfl, x_12, hdo.fin (by omega), by omega⟩
end Go.Proofs.Ytnehocjmgnhhhaa
