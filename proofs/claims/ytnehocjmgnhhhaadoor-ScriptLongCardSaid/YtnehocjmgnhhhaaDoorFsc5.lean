import Derived.Test.YtnehocjmgnhhhaaDoorFsc4
/- Scripts: Read. -/
namespace Go.Proofs.YtnehocjmgnhhhaaDoor
open Go.RowKit
set_option linter.unusedVariables false
attribute [local irreducible] K.KW K.RW K.DW K.OW K.QR K.KC
set_option maxHeartbeats 8000000 in
set_option maxRecDepth 100000 in
theorem sread_ok (w0 : World) (l : List UInt8) (hl : l.length ≤ 1000000) :
    K.GC Tryd.prog w0 27 #[.string (K.sb l)] [] (fun v post => ∃ r g k, post = [g] ∧ v = .tuple #[.slice r (readM l).1.length k, .int .i64 (readM l).2.1, .int .i64 (readM l).2.2] ∧ K.OwnG g 57 6 r (readM l).1.length k ((readM l).1.flatMap cAct)) := by
  refine K.GC.mkD (n := 53) Tryd.func27 rfl rfl [.string (K.sb l)] rfl rfl ?_
  intro fr w hS
  replace hS : K.Sat w0 [fr] w := hS
  refine K.KW.seq ?_
  -- 0 :159
  refine K.KW.region ?_
  refine K.RW.l rfl (K.OW.gnew 54 [.slice none 0 0] hS ?_)
  clear hS; intro w r_1 g_2 hg_3 hS
  refine K.RW.l rfl (K.OW.gnew 3 [.int .i64 0] hS ?_)
  clear hS; intro w r_4 g_5 hg_6 hS
  refine K.RW.l rfl (K.OW.gnew 30 [.int .i64 0] hS ?_)
  clear hS; intro w r_7 g_8 hg_9 hS
  refine K.RW.nil ?_
  refine K.thn_normal ?_
  refine K.KW.seq ?_
  refine K.KW.seq ?_
  -- 1 :160
  refine K.KW.region ?_
  refine K.RW.qs [.string (K.sb l)] (by kernel_rfl) ?_
  refine K.RW.q rfl rfl (K.QR.sLen (xs := l) rfl rfl Tryd.underlying9) ?_
  by_cases h_10 : (((l.length : Nat) : Int) : Int) > (65536 : Int)
  ·  -- yes
    refine K.RW.q rfl rfl (K.QR.nice (v := .bool (decide ((((l.length : Nat) : Int) : Int) > (65536 : Int)))) (by kernel_rfl) (congrArg Value.bool (decide_eq_true h_10))) ?_
    refine K.RW.nil ?_
    refine K.thn_normal ?_
    refine K.KW.ifT rfl ?_
    refine K.KW.seq ?_
    -- 2 :161
    refine K.KW.region ?_
    refine K.RW.l rfl (K.OW.gst 2 [.slice none 0 0] [.slice none 0 0] hS hg_3 ?_)
    clear hS; intro w g_11 hg_12 hS
    replace hS : K.Sat w0 [g_8, g_5, g_11, fr] w := hS
    refine K.RW.l rfl (K.OW.gst 1 [.int .i64 0] [.int .i64 0] hS hg_6 ?_)
    clear hS; intro w g_13 hg_14 hS
    replace hS : K.Sat w0 [g_8, g_13, g_11, fr] w := hS
    refine K.RW.l rfl (K.OW.gst 0 [.int .i64 2] [.int .i64 2] hS hg_9 ?_)
    clear hS; intro w g_15 hg_16 hS
    replace hS : K.Sat w0 [g_15, g_13, g_11, fr] w := hS
    refine K.RW.nil ?_
    refine K.thn_normal ?_
    refine K.KW.ret ?_
    refine K.thn_ret ?_
    refine ⟨.inr rfl, .inl ⟨rfl, ?_⟩⟩
    obtain ⟨z_17, hz_18⟩ : ∃ z : K.Cs, z = [] := ⟨_, rfl⟩
    replace hS : K.Sat w0 [z_17, g_15, g_13, g_11, fr] w := hS.of (by simp [hz_18])
    have o_19 : K.OwnG z_17 57 6 none 0 0 [] := by rw [hz_18]; exact K.OwnG.nil _ _
    have e : readM l = ([], 0, 2) := by unfold readM; rw [if_pos (by omega)]
    refine ⟨(.tuple #[.slice none 0 0, .int .i64 0, .int .i64 2]), K.resAt (rs := [.cell 2 54, .cell 3 3, .cell 4 30]) [.slice none 0 0, .int .i64 0, .int .i64 2] rfl ⟨⟨_, rfl, K.lv1 (by kernel_rfl) ((hS.blk 3 rfl hg_12).cell rfl)⟩, ⟨_, rfl, K.lv1 (by kernel_rfl) ((hS.blk 2 rfl hg_14).cell rfl)⟩, ⟨_, rfl, K.lv1 (by kernel_rfl) ((hS.blk 1 rfl hg_16).cell rfl)⟩, trivial⟩, [z_17], ?_, hS.pick [0, 4]⟩
    exact ⟨_, _, _, rfl, by rw [e]; rfl, by rw [e]; exact o_19⟩
  ·  -- no
    refine K.RW.q rfl rfl (K.QR.nice (v := .bool (decide ((((l.length : Nat) : Int) : Int) > (65536 : Int)))) (by kernel_rfl) (congrArg Value.bool (decide_eq_false h_10))) ?_
    refine K.RW.nil ?_
    refine K.thn_normal ?_
    refine K.KW.ifF rfl ?_
    refine K.KW.skip ?_
    refine K.thn_normal ?_
    refine K.KW.seq ?_
    -- 3 :163
    refine K.KW.region ?_
    refine K.RW.l rfl (K.OW.gnew 54 [.slice none 0 0] hS ?_)
    clear hS; intro w r_20 g_21 hg_22 hS
    refine K.RW.nil ?_
    refine K.thn_normal ?_
    refine K.KW.seq ?_
    refine K.KW.seq ?_
    -- 4 :164
    have hRM : readG (l.length + 1) l 0 [] = readM l := by unfold readM; rw [if_neg (by omega)]
    obtain ⟨z_23, hz_24⟩ : ∃ z : K.Cs, z = [] := ⟨_, rfl⟩
    replace hS : K.Sat w0 [z_23, g_21, g_8, g_5, g_2, fr] w := hS.of (by simp [hz_24])
    have o_25 : K.OwnG z_23 57 6 none 0 0 [] := by rw [hz_24]; exact K.OwnG.nil _ _
    refine K.KW.region ?_
    refine K.RW.qs [.string (K.sb l)] (by kernel_rfl) ?_
    refine K.RW.l rfl (K.OW.gcall hS [] [0, 1, 2, 3, 4, 5] [.string (K.sb l)] (srows_ok _ l) ?_)
    clear hS; rintro _ _ w ⟨b_26, g_27, rfl, rfl, h_28⟩ hS
    replace hS : K.Sat w0 [g_27, z_23, g_21, g_8, g_5, g_2, fr] w := hS
    refine K.RW.nil ?_
    refine K.thn_normal ?_
    refine K.KW.block ?_
    refine K.KW.grange (first := []) (cap := [.pointer (some ⟨b_26, 0, none⟩)]) hS rfl (by kernel_rfl) rfl ?_
    clear hS; intro fid_29 w rd_30 lp_31 gd_32 gl_33 hgd_34 hgl_35 hS
    generalize hrec_37 : K.mkLoop _ _ _ _ _ _ _ = rec_36 at hgl_35
    subst hgl_35
    refine K.KC.mix (J := fun (k : Nat) (Lt : List UInt8) (m : K.Cs) => ∃ (O : List ActM) (q1 : Option Addr) (c1 : Nat) (gW : K.Cs) (gO : K.Cs), (O.length ≤ 20000) ∧ (k + Lt.length ≤ l.length) ∧ (readG (Lt.length + 1) Lt k O = readM l) ∧ (K.OwnG gW 57 6 q1 O.length c1 ((O).flatMap cAct)) ∧ (gO = [K.pt r_20 54 [.slice q1 O.length c1]]) ∧ m = [[(lp_31, Obj.loop rec_36)], gd_32, gW, gO, g_8, g_5, g_2, fr].flatten) (E := fun (m : K.Cs) => ∃ (n : Int) (e : Int) (gc : K.Cs) (gb : K.Cs) (ga : K.Cs), (readM l = ([], n, e)) ∧ (gc = [K.pt r_7 30 [.int .i64 e]]) ∧ (gb = [K.pt r_4 3 [.int .i64 n]]) ∧ (ga = [K.pt r_1 54 [.slice none 0 0]]) ∧ m = [[(lp_31, Obj.loop { rec_36 with state := .done, pending := some .ret })], gd_32, gc, gb, ga, fr].flatten) (g := fun (k : Nat) (L : List UInt8) => [.int .i64 ((k + 1 : Nat) : Int), .string (K.sb (K.cutS 10 L).1)]) rowNx hS 2 [0, 1, 3, 4, 5, 6, 7, 8] (fun J E hr m' h0 => srows1_ok _ _ _ _ l (by omega) h_28 J E hr m' h0) ?_ ?_ ?_ ?_
    · exact ⟨[], none, 0, z_23, g_21, by simp, by omega, hRM, (o_25), (hg_22), rfl⟩
    ·
      clear hS; intro k Lt m hL hJ_39 fr_38 w hS
      obtain ⟨O, q1, c1, gW, gO, hO, hk, hR, h_43, h_44, rfl⟩ := hJ_39
      replace hS : K.Sat w0 [[(lp_31, Obj.loop rec_36)], gd_32, gW, gO, g_8, g_5, g_2, fr, fr_38] w := hS.of (by simp [K.pick, K.nth])
      obtain ⟨gl_45, hgl_46⟩ : ∃ g : K.Cs, g = [(lp_31, Obj.loop rec_36)] := ⟨_, rfl⟩
      replace hS : K.Sat w0 [gl_45, gd_32, gW, gO, g_8, g_5, g_2, fr, fr_38] w := by rw [hgl_46]; exact hS
      subst hrec_37
      refine K.YS.ground (n := 53) (ps := [16, 17]) 0 hS rfl hgl_46 rfl rfl rfl rfl rfl ?_
      refine K.KW.seq ?_
      -- 5 :164
      refine K.KW.region ?_
      refine K.RW.qs [.int .i64 ((k + 1 : Nat) : Int)] (by kernel_rfl) ?_
      refine K.RW.nil ?_
      refine K.thn_normal ?_
      -- 6 :164
      refine K.KW.region ?_
      refine K.RW.qs [.string (K.sb ((K.cutS 10 Lt).1))] (by kernel_rfl) ?_
      refine K.RW.nil ?_
      refine K.rb_g 0 hS rfl hgl_46 rfl ?_
      clear hS; intro w gl_47 hgl_48 hS
      replace hS : K.Sat w0 [gl_47, gd_32, gW, gO, g_8, g_5, g_2, fr, fr_38] w := hS
      refine K.KW.block ?_
      refine K.KW.seq ?_
      refine K.KW.seq ?_
      -- 7 :165
      have hcl0 := cut_less (c := 10) hL
      have hrl0 := cut_row (c := 10) Lt
      refine K.KW.region ?_
      refine K.RW.qs [.string (K.sb ((K.cutS 10 Lt).1))] (by kernel_rfl) ?_
      by_cases h_49 : ((K.cutS 10 Lt).1) = ([] : List UInt8)
      ·  -- yes
        refine K.RW.q rfl rfl (K.QR.sEq (xs := (K.cutS 10 Lt).1) (ys := []) true rfl rfl rfl (K.deq_t h_49)) ?_
        refine K.RW.qs [.bool true] (by kernel_rfl) ?_
        refine K.RW.skip rfl (by kernel_rfl) ?_
        refine K.RW.skip rfl (by kernel_rfl) ?_
        refine K.RW.skip rfl (by kernel_rfl) ?_
        refine K.RW.qs [.bool true] (by kernel_rfl) ?_
        refine K.RW.nil ?_
        refine K.thn_normal ?_
        refine K.KW.ifT rfl ?_
        refine K.KW.exit ?_
        refine K.thn_exit ?_
        refine K.blk_hit ?_
        refine K.rq_normal_g 0 hS rfl hgl_48 ?_
        clear hS; intro w gl_50 hgl_51 hS
        replace hS : K.Sat w0 [gl_50, gd_32, gW, gO, g_8, g_5, g_2, fr, fr_38] w := hS
        refine ⟨_, rfl, [gl_50, gd_32, gW, gO, g_8, g_5, g_2, fr].flatten, .inl ⟨rfl, O, q1, c1, gW, gO, (by omega), (by unfold rowNx; have := cut_less (c := 10) hL; omega), (readG_skip hR hL (.inl h_49)), (h_43), (h_44), by subst hgl_51; rfl⟩, (hS.pick [0, 1, 2, 3, 4, 5, 6, 7, 8]).of (by simp [K.pick, K.nth])⟩
      ·  -- no
        refine K.RW.q rfl rfl (K.QR.sEq (xs := (K.cutS 10 Lt).1) (ys := []) false rfl rfl rfl (K.deq_f h_49)) ?_
        refine K.RW.qs [.bool false, .string (K.sb ((K.cutS 10 Lt).1))] (by kernel_rfl) ?_
        refine K.RW.q rfl (by kernel_rfl) (K.QR.sIx (xs := (K.cutS 10 Lt).1) (i := 0) rfl rfl rfl Tryd.underlying9 (by exact List.length_pos_iff.2 (by assumption))) ?_
        by_cases h_52 : ((((((K.cutS 10 Lt).1).getD 0 0).toNat : Nat) : Int) : Int) = (35 : Int)
        ·  -- yes
          refine K.RW.q rfl (by kernel_rfl) (K.QR.nice (v := .bool (((((((K.cutS 10 Lt).1).getD 0 0).toNat : Nat) : Int) : Int) == (35 : Int))) (by kernel_rfl) (congrArg Value.bool (beq_iff_eq.2 h_52))) ?_
          refine K.RW.qs [.bool true] (by kernel_rfl) ?_
          refine K.RW.nil ?_
          refine K.thn_normal ?_
          refine K.KW.ifT rfl ?_
          refine K.KW.exit ?_
          refine K.thn_exit ?_
          refine K.blk_hit ?_
          refine K.rq_normal_g 0 hS rfl hgl_48 ?_
          clear hS; intro w gl_53 hgl_54 hS
          replace hS : K.Sat w0 [gl_53, gd_32, gW, gO, g_8, g_5, g_2, fr, fr_38] w := hS
          refine ⟨_, rfl, [gl_53, gd_32, gW, gO, g_8, g_5, g_2, fr].flatten, .inl ⟨rfl, O, q1, c1, gW, gO, (by omega), (by unfold rowNx; have := cut_less (c := 10) hL; omega), (readG_skip hR hL (.inr (by have h35 := h_52; exact UInt8.toNat_inj.1 (by show _ = 35; omega)))), (h_43), (h_44), by subst hgl_54; rfl⟩, (hS.pick [0, 1, 2, 3, 4, 5, 6, 7, 8]).of (by simp [K.pick, K.nth])⟩
        ·  -- no
          refine K.RW.q rfl (by kernel_rfl) (K.QR.nice (v := .bool (((((((K.cutS 10 Lt).1).getD 0 0).toNat : Nat) : Int) : Int) == (35 : Int))) (by kernel_rfl) (congrArg Value.bool (beq_eq_false_iff_ne.2 h_52))) ?_
          refine K.RW.qs [.bool false] (by kernel_rfl) ?_
          refine K.RW.nil ?_
          refine K.thn_normal ?_
          refine K.KW.ifF rfl ?_
          refine K.KW.skip ?_
          refine K.thn_normal ?_
          refine K.KW.seq ?_
          -- 8 :168
          have hrl := cut_row (c := 10) Lt
          have hcl := cut_less (c := 10) hL
          refine K.KW.region ?_
          refine K.RW.qs [.string (K.sb ((K.cutS 10 Lt).1))] (by kernel_rfl) ?_
          refine K.RW.l rfl (K.OW.gcall hS [] [0, 1, 2, 3, 4, 5, 6, 7, 8] [.string (K.sb ((K.cutS 10 Lt).1))] (sline_ok _ ((K.cutS 10 Lt).1) (by omega)) ?_)
          clear hS; rintro _ _ w ⟨rfl, rfl⟩ hS
          replace hS : K.Sat w0 [gl_47, gd_32, gW, gO, g_8, g_5, g_2, fr, fr_38] w := hS
          refine K.RW.qs [.tuple #[.agg #[.int .i64 (((actW (K.spl 32 ((K.cutS 10 Lt).1))).1).k), .int .i64 (((actW (K.spl 32 ((K.cutS 10 Lt).1))).1).th), .int .i64 (((actW (K.spl 32 ((K.cutS 10 Lt).1))).1).ln), .int .i64 (((actW (K.spl 32 ((K.cutS 10 Lt).1))).1).ok), .int .u32 (((actW (K.spl 32 ((K.cutS 10 Lt).1))).1).key), .int .u32 (((actW (K.spl 32 ((K.cutS 10 Lt).1))).1).val)], .int .i64 ((actW (K.spl 32 ((K.cutS 10 Lt).1))).2.1), .int .i64 ((actW (K.spl 32 ((K.cutS 10 Lt).1))).2.2)], .agg #[.int .i64 (((actW (K.spl 32 ((K.cutS 10 Lt).1))).1).k), .int .i64 (((actW (K.spl 32 ((K.cutS 10 Lt).1))).1).th), .int .i64 (((actW (K.spl 32 ((K.cutS 10 Lt).1))).1).ln), .int .i64 (((actW (K.spl 32 ((K.cutS 10 Lt).1))).1).ok), .int .u32 (((actW (K.spl 32 ((K.cutS 10 Lt).1))).1).key), .int .u32 (((actW (K.spl 32 ((K.cutS 10 Lt).1))).1).val)], .int .i64 ((actW (K.spl 32 ((K.cutS 10 Lt).1))).2.1), .int .i64 ((actW (K.spl 32 ((K.cutS 10 Lt).1))).2.2)] (by kernel_rfl) ?_
          refine K.RW.l rfl (K.OW.gnew 57 [.int .i64 0, .int .i64 0, .int .i64 0, .int .i64 0, .int .u32 0, .int .u32 0] hS ?_)
          clear hS; intro w r_55 g_56 hg_57 hS
          refine K.RW.l rfl (K.OW.gst 0 [.int .i64 (((actW (K.spl 32 ((K.cutS 10 Lt).1))).1).k), .int .i64 (((actW (K.spl 32 ((K.cutS 10 Lt).1))).1).th), .int .i64 (((actW (K.spl 32 ((K.cutS 10 Lt).1))).1).ln), .int .i64 (((actW (K.spl 32 ((K.cutS 10 Lt).1))).1).ok), .int .u32 (((actW (K.spl 32 ((K.cutS 10 Lt).1))).1).key), .int .u32 (((actW (K.spl 32 ((K.cutS 10 Lt).1))).1).val)] [.int .i64 (((actW (K.spl 32 ((K.cutS 10 Lt).1))).1).k), .int .i64 (((actW (K.spl 32 ((K.cutS 10 Lt).1))).1).th), .int .i64 (((actW (K.spl 32 ((K.cutS 10 Lt).1))).1).ln), .int .i64 (((actW (K.spl 32 ((K.cutS 10 Lt).1))).1).ok), .int .u32 (((actW (K.spl 32 ((K.cutS 10 Lt).1))).1).key), .int .u32 (((actW (K.spl 32 ((K.cutS 10 Lt).1))).1).val)] hS hg_57 ?_)
          clear hS; intro w g_58 hg_59 hS
          replace hS : K.Sat w0 [g_58, gl_47, gd_32, gW, gO, g_8, g_5, g_2, fr, fr_38] w := hS
          refine K.RW.qs [.int .i64 ((actW (K.spl 32 ((K.cutS 10 Lt).1))).2.1), .int .i64 ((actW (K.spl 32 ((K.cutS 10 Lt).1))).2.2)] (by kernel_rfl) ?_
          refine K.RW.nil ?_
          refine K.thn_normal ?_
          refine K.KW.seq ?_
          refine K.KW.seq ?_
          -- 9 :169
          have htm : (actW (K.spl 32 (K.cutS 10 Lt).1)).2.2 = 0 → 1 ≤ (actW (K.spl 32 (K.cutS 10 Lt).1)).2.1 ∧ (actW (K.spl 32 (K.cutS 10 Lt).1)).2.1 ≤ 10000 := fun h => actW_times h
          refine K.KW.region ?_
          refine K.RW.qs [.int .i64 ((actW (K.spl 32 ((K.cutS 10 Lt).1))).2.2)] (by kernel_rfl) ?_
          by_cases h_60 : ((actW (K.spl 32 ((K.cutS 10 Lt).1))).2.2 : Int) = (0 : Int)
          ·  -- yes
            refine K.RW.q rfl rfl (K.QR.nice (v := .bool (((actW (K.spl 32 ((K.cutS 10 Lt).1))).2.2 : Int) == (0 : Int))) (by kernel_rfl) (congrArg Value.bool (beq_iff_eq.2 h_60))) ?_
            refine K.RW.qs [.bool true] (by kernel_rfl) ?_
            refine K.RW.q rfl (by kernel_rfl) (K.QR.ld1 (v := .slice q1 O.length c1) rfl rfl (by kernel_rfl) ((hS.blk 4 rfl h_44).cell rfl)) ?_
            refine K.RW.q rfl (by kernel_rfl) (K.QR.len (P := Tryd.prog) rfl rfl Tryd.underlying54) ?_
            refine K.RW.qs [.int .i64 ((actW (K.spl 32 ((K.cutS 10 Lt).1))).2.1)] (by kernel_rfl) ?_
            refine K.RW.q rfl (by kernel_rfl) (K.QR.n64 ((((O.length : Nat) : Int) : Int) + ((actW (K.spl 32 ((K.cutS 10 Lt).1))).2.1 : Int)) ((((O.length : Nat) : Int) : Int) + ((actW (K.spl 32 ((K.cutS 10 Lt).1))).2.1 : Int)) (by kernel_rfl) (by omega)) ?_
            by_cases h_61 : ((((O.length : Nat) : Int) : Int) + ((actW (K.spl 32 ((K.cutS 10 Lt).1))).2.1 : Int) : Int) > (20000 : Int)
            ·  -- yes
              refine K.RW.q rfl (by kernel_rfl) (K.QR.nice (v := .bool (decide (((((O.length : Nat) : Int) : Int) + ((actW (K.spl 32 ((K.cutS 10 Lt).1))).2.1 : Int) : Int) > (20000 : Int)))) (by kernel_rfl) (congrArg Value.bool (decide_eq_true h_61))) ?_
              refine K.RW.qs [.bool true] (by kernel_rfl) ?_
              refine K.RW.nil ?_
              refine K.thn_normal ?_
              refine K.KW.ifT rfl ?_
              -- 10 :170
              refine K.KW.region ?_
              refine K.RW.qs [.int .i64 2] (by kernel_rfl) ?_
              refine K.RW.nil ?_
              refine K.thn_normal ?_
              refine K.KW.seq ?_
              refine K.KW.seq ?_
              -- 11 :172
              refine K.KW.region ?_
              refine K.RW.qs [.int .i64 2, .bool true] (by kernel_rfl) ?_
              refine K.RW.nil ?_
              refine K.thn_normal ?_
              refine K.KW.ifT rfl ?_
              refine K.KW.seq ?_
              -- 12 :173
              refine K.KW.region ?_
              refine K.RW.qs [.int .i64 ((k + 1 : Nat) : Int), .int .i64 2] (by kernel_rfl) ?_
              refine K.RW.l rfl (K.OW.gst 7 [.slice none 0 0] [.slice none 0 0] hS hg_3 ?_)
              clear hS; intro w g_62 hg_63 hS
              replace hS : K.Sat w0 [g_58, gl_47, gd_32, gW, gO, g_8, g_5, g_62, fr, fr_38] w := hS
              refine K.RW.l rfl (K.OW.gst 6 [.int .i64 ((k + 1 : Nat) : Int)] [.int .i64 ((k + 1 : Nat) : Int)] hS hg_6 ?_)
              clear hS; intro w g_64 hg_65 hS
              replace hS : K.Sat w0 [g_58, gl_47, gd_32, gW, gO, g_8, g_64, g_62, fr, fr_38] w := hS
              refine K.RW.l rfl (K.OW.gst 5 [.int .i64 2] [.int .i64 2] hS hg_9 ?_)
              clear hS; intro w g_66 hg_67 hS
              replace hS : K.Sat w0 [g_58, gl_47, gd_32, gW, gO, g_66, g_64, g_62, fr, fr_38] w := hS
              refine K.RW.nil ?_
              refine K.thn_normal ?_
              refine K.KW.ret ?_
              refine K.thn_ret ?_
              refine K.blk_ret ?_
              refine K.rq_ret_g 1 hS rfl hgl_48 ?_
              clear hS; intro w gl_68 hgl_69 hS
              replace hS : K.Sat w0 [g_58, gl_68, gd_32, gW, gO, g_66, g_64, g_62, fr, fr_38] w := hS
              refine ⟨_, rfl, [gl_68, gd_32, g_66, g_64, g_62, fr].flatten, .inr ⟨rfl, ((k + 1 : Nat) : Int), 2, g_66, g_64, g_62, (readG_big hR hL (fun hh => hh.elim (fun h => absurd h h_49) (fun h35 => by have h36 := h_52; rw [h35] at h36; exact h36 rfl)) (by omega) (by omega)), (hg_67), (hg_65), (hg_63), by subst hgl_69; rfl⟩, (hS.pick [1, 2, 5, 6, 7, 8, 9]).of (by simp [K.pick, K.nth])⟩
            ·  -- no
              refine K.RW.q rfl (by kernel_rfl) (K.QR.nice (v := .bool (decide (((((O.length : Nat) : Int) : Int) + ((actW (K.spl 32 ((K.cutS 10 Lt).1))).2.1 : Int) : Int) > (20000 : Int)))) (by kernel_rfl) (congrArg Value.bool (decide_eq_false h_61))) ?_
              refine K.RW.qs [.bool false] (by kernel_rfl) ?_
              refine K.RW.nil ?_
              refine K.thn_normal ?_
              refine K.KW.ifF rfl ?_
              refine K.KW.skip ?_
              refine K.thn_normal ?_
              refine K.KW.seq ?_
              refine K.KW.seq ?_
              -- 11 :172
              refine K.KW.region ?_
              refine K.RW.qs [.int .i64 ((actW (K.spl 32 ((K.cutS 10 Lt).1))).2.2)] (by kernel_rfl) ?_
              refine K.RW.q rfl rfl (K.QR.nice (v := .bool (((actW (K.spl 32 ((K.cutS 10 Lt).1))).2.2 : Int) != (0 : Int))) (by kernel_rfl) (congrArg Value.bool (bne_eq_false_iff_eq.2 h_60))) ?_
              refine K.RW.nil ?_
              refine K.thn_normal ?_
              refine K.KW.ifF rfl ?_
              refine K.KW.skip ?_
              refine K.thn_normal ?_
              refine K.KW.seq ?_
              -- 13 :175
              have h0e : (actW (K.spl 32 (K.cutS 10 Lt).1)).2.2 = 0 := by omega
              have htm3 := htm h0e
              refine K.KW.region ?_
              refine K.RW.qs [.int .i64 ((actW (K.spl 32 ((K.cutS 10 Lt).1))).2.1), .int .i64 0] (by kernel_rfl) ?_
              refine K.RW.nil ?_
              refine K.thn_normal ?_
              refine K.KW.block ?_
              refine K.KW.loop (fun m_ F_ w_ => ∃ (j : Nat) (q2 : Option Addr) (c2 : Nat) (gW2 : K.Cs) (gO2 : K.Cs), m_ = (actW (K.spl 32 (K.cutS 10 Lt).1)).2.1.toNat - j ∧ K.Sl F_ [(0, .string (K.sb l)), (2, .pointer (some ⟨r_1, 0, none⟩)), (3, .pointer (some ⟨r_4, 0, none⟩)), (4, .pointer (some ⟨r_7, 0, none⟩)), (5, .pointer (some ⟨r_20, 0, none⟩)), (8, .pointer (some ⟨r_55, 0, none⟩)), (44, .int .i64 ((actW (K.spl 32 ((K.cutS 10 Lt).1))).2.1)), (45, .int .i64 ((j : Nat) : Int)), (53, undef)] ∧ j ≤ (actW (K.spl 32 (K.cutS 10 Lt).1)).2.1.toNat ∧ K.OwnG gW2 57 6 q2 ((O ++ List.replicate j (actW (K.spl 32 (K.cutS 10 Lt).1)).1).length) c2 ((O ++ List.replicate j (actW (K.spl 32 (K.cutS 10 Lt).1)).1).flatMap cAct) ∧ gO2 = [K.pt r_20 54 [.slice q2 ((O ++ List.replicate j (actW (K.spl 32 (K.cutS 10 Lt).1)).1).length) c2]] ∧ K.Sat w0 [g_58, gl_47, gd_32, gW2, gO2, g_8, g_5, g_2, fr, fr_38] w_) ((fun (j : Nat) (q2 : Option Addr) (c2 : Nat) => (actW (K.spl 32 (K.cutS 10 Lt).1)).2.1.toNat - j) 0 q1 c1) ?_ ?_
              · -- begins
                exact ⟨0, q1, c1, gW, gO, rfl, ⟨by rfl, by rfl, by rfl, by rfl, by rfl, by rfl, by rfl, by rfl, by rfl, trivial⟩, (by omega), by simpa using h_43, by simpa using h_44, hS.pick [0, 1, 2, 3, 4, 5, 6, 7, 8, 9]⟩
              · -- a round
                clear hS
                intro m_70 F_71 w hI
                obtain ⟨j, q2, c2, gW2, gO2, rfl, sl_72, p_73, x_74, x_75, hS⟩ := hI
                rw [← K.Sl.puts sl_72]; clear sl_72
                have hlj : (O ++ List.replicate j (actW (K.spl 32 (K.cutS 10 Lt).1)).1).length = O.length + j := by simp
                refine K.KW.seq ?_
                -- 14 :175
                refine K.KW.region ?_
                by_cases h_76 : (((j : Nat) : Int) : Int) < ((actW (K.spl 32 ((K.cutS 10 Lt).1))).2.1 : Int)
                ·  -- yes
                  refine K.RW.q rfl rfl (K.QR.nice (v := .bool (decide ((((j : Nat) : Int) : Int) < ((actW (K.spl 32 ((K.cutS 10 Lt).1))).2.1 : Int)))) (by kernel_rfl) (congrArg Value.bool (decide_eq_true h_76))) ?_
                  refine K.RW.nil ?_
                  refine K.thn_normal ?_
                  refine K.KW.seq ?_
                  refine K.KW.ifT rfl ?_
                  refine K.KW.skip ?_
                  refine K.thn_normal ?_
                  refine K.KW.seq ?_
                  refine K.KW.block ?_
                  -- 15 :176
                  refine K.KW.region ?_
                  refine K.RW.q rfl rfl (K.QR.ld1 (v := .slice q2 ((O ++ List.replicate j (actW (K.spl 32 (K.cutS 10 Lt).1)).1).length) c2) rfl rfl (by kernel_rfl) ((hS.blk 4 rfl x_75).cell rfl)) ?_
                  refine K.RW.q rfl rfl (K.QR.ldN [.int .i64 (((actW (K.spl 32 ((K.cutS 10 Lt).1))).1).k), .int .i64 (((actW (K.spl 32 ((K.cutS 10 Lt).1))).1).th), .int .i64 (((actW (K.spl 32 ((K.cutS 10 Lt).1))).1).ln), .int .i64 (((actW (K.spl 32 ((K.cutS 10 Lt).1))).1).ok), .int .u32 (((actW (K.spl 32 ((K.cutS 10 Lt).1))).1).key), .int .u32 (((actW (K.spl 32 ((K.cutS 10 Lt).1))).1).val)] rfl rfl (by kernel_rfl) (by kernel_rfl) (K.cells (K.cl ((hS.blk 0 rfl hg_59).cell rfl) (K.cl ((hS.blk 0 rfl hg_59).cell rfl) (K.cl ((hS.blk 0 rfl hg_59).cell rfl) (K.cl ((hS.blk 0 rfl hg_59).cell rfl) (K.cl ((hS.blk 0 rfl hg_59).cell rfl) (K.cl ((hS.blk 0 rfl hg_59).cell rfl) K.cl0)))))))) ?_
                  refine K.RW.l rfl (K.OW.gbs [(0, .agg #[.int .i64 (((actW (K.spl 32 ((K.cutS 10 Lt).1))).1).k), .int .i64 (((actW (K.spl 32 ((K.cutS 10 Lt).1))).1).th), .int .i64 (((actW (K.spl 32 ((K.cutS 10 Lt).1))).1).ln), .int .i64 (((actW (K.spl 32 ((K.cutS 10 Lt).1))).1).ok), .int .u32 (((actW (K.spl 32 ((K.cutS 10 Lt).1))).1).key), .int .u32 (((actW (K.spl 32 ((K.cutS 10 Lt).1))).1).val)])] [.int .i64 (((actW (K.spl 32 ((K.cutS 10 Lt).1))).1).k), .int .i64 (((actW (K.spl 32 ((K.cutS 10 Lt).1))).1).th), .int .i64 (((actW (K.spl 32 ((K.cutS 10 Lt).1))).1).ln), .int .i64 (((actW (K.spl 32 ((K.cutS 10 Lt).1))).1).ok), .int .u32 (((actW (K.spl 32 ((K.cutS 10 Lt).1))).1).key), .int .u32 (((actW (K.spl 32 ((K.cutS 10 Lt).1))).1).val)] hS (fun w => K.bs_run (P := Tryd.prog) w 54 57 1 _ _ Tryd.underlying54 (by kernel_rfl)) ?_)
                  clear hS; intro w r_77 g_78 hg_79 hS
                  refine K.RW.l rfl (K.OW.gapp (P := Tryd.prog) (xs := (O ++ List.replicate j (actW (K.spl 32 (K.cutS 10 Lt).1)).1).flatMap cAct) (z := .agg #[.int .i64 0, .int .i64 0, .int .i64 0, .int .i64 0, .int .u32 0, .int .u32 0]) (size := 6) (bytes := 40) 4 [.int .i64 (((actW (K.spl 32 ((K.cutS 10 Lt).1))).1).k), .int .i64 (((actW (K.spl 32 ((K.cutS 10 Lt).1))).1).th), .int .i64 (((actW (K.spl 32 ((K.cutS 10 Lt).1))).1).ln), .int .i64 (((actW (K.spl 32 ((K.cutS 10 Lt).1))).1).ok), .int .u32 (((actW (K.spl 32 ((K.cutS 10 Lt).1))).1).key), .int .u32 (((actW (K.spl 32 ((K.cutS 10 Lt).1))).1).val)] hS x_74 ?_ (fun j u hj => (by rw [Nat.zero_add]; exact (hS.blk 0 rfl hg_79).cell hj)) (K.one_cells (by rfl)) (by rfl) Tryd.underlying54 (by kernel_rfl) rfl (by decide) (by unfold maxLen; omega) (by omega))
                  clear hS; intro a_80 cap_81 w l_82 o_83 hS
                  have ln_84 : ((O ++ List.replicate j (actW (K.spl 32 (K.cutS 10 Lt).1)).1 ++ [(⟨((actW (K.spl 32 ((K.cutS 10 Lt).1))).1).k, ((actW (K.spl 32 ((K.cutS 10 Lt).1))).1).th, ((actW (K.spl 32 ((K.cutS 10 Lt).1))).1).ln, ((actW (K.spl 32 ((K.cutS 10 Lt).1))).1).ok, ((actW (K.spl 32 ((K.cutS 10 Lt).1))).1).key, ((actW (K.spl 32 ((K.cutS 10 Lt).1))).1).val⟩ : ActM)])).length = (O ++ List.replicate j (actW (K.spl 32 (K.cutS 10 Lt).1)).1).length + 1 := by rw [List.length_append]; rfl
                  have o_83c := K.OwnG.cast (xs' := ((O ++ List.replicate j (actW (K.spl 32 (K.cutS 10 Lt).1)).1 ++ [(⟨((actW (K.spl 32 ((K.cutS 10 Lt).1))).1).k, ((actW (K.spl 32 ((K.cutS 10 Lt).1))).1).th, ((actW (K.spl 32 ((K.cutS 10 Lt).1))).1).ln, ((actW (K.spl 32 ((K.cutS 10 Lt).1))).1).ok, ((actW (K.spl 32 ((K.cutS 10 Lt).1))).1).key, ((actW (K.spl 32 ((K.cutS 10 Lt).1))).1).val⟩ : ActM)])).flatMap cAct) o_83 rfl (K.fl_snoc cAct (O ++ List.replicate j (actW (K.spl 32 (K.cutS 10 Lt).1)).1) (⟨((actW (K.spl 32 ((K.cutS 10 Lt).1))).1).k, ((actW (K.spl 32 ((K.cutS 10 Lt).1))).1).th, ((actW (K.spl 32 ((K.cutS 10 Lt).1))).1).ln, ((actW (K.spl 32 ((K.cutS 10 Lt).1))).1).ok, ((actW (K.spl 32 ((K.cutS 10 Lt).1))).1).key, ((actW (K.spl 32 ((K.cutS 10 Lt).1))).1).val⟩ : ActM) rfl)
                  replace hS : K.Sat w0 [g_78, g_58, gl_47, gd_32, l_82, gO2, g_8, g_5, g_2, fr, fr_38] w := hS
                  refine K.RW.l rfl (K.OW.gst 5 [.slice a_80 ((O ++ List.replicate j (actW (K.spl 32 (K.cutS 10 Lt).1)).1).length + 1) cap_81] [.slice a_80 ((O ++ List.replicate j (actW (K.spl 32 (K.cutS 10 Lt).1)).1).length + 1) cap_81] hS x_75 ?_)
                  clear hS; intro w g_85 hg_86 hS
                  replace hS : K.Sat w0 [g_78, g_58, gl_47, gd_32, l_82, g_85, g_8, g_5, g_2, fr, fr_38] w := hS
                  refine K.RW.nil ?_
                  refine K.blk_normal ?_
                  refine K.thn_normal ?_
                  -- 16 :175
                  refine K.KW.region ?_
                  refine K.RW.q rfl rfl (K.QR.n64 ((((j : Nat) : Int) : Int) + (1 : Int)) ((j + 1 : Nat) : Int) (by kernel_rfl) (by omega)) ?_
                  refine K.RW.qs [.int .i64 ((j + 1 : Nat) : Int)] (by kernel_rfl) ?_
                  refine K.RW.nil ?_
                  refine K.thn_normal ?_
                  refine ⟨_, ?_, j + 1, a_80, cap_81, l_82, g_85, rfl, ⟨by rfl, by rfl, by rfl, by rfl, by rfl, by rfl, by rfl, by rfl, by rfl, trivial⟩, (by omega), K.OwnG.cast o_83c (by simp; try omega) (by rw [List.replicate_succ', ← List.append_assoc]), by rw [show (O ++ List.replicate (j + 1) (actW (K.spl 32 (K.cutS 10 Lt).1)).1).length = (O ++ List.replicate j (actW (K.spl 32 (K.cutS 10 Lt).1)).1).length + 1 by simp; try omega]; exact hg_86, hS.pick [1, 2, 3, 4, 5, 6, 7, 8, 9, 10]⟩
                  omega
                ·  -- no
                  refine K.RW.q rfl rfl (K.QR.nice (v := .bool (decide ((((j : Nat) : Int) : Int) < ((actW (K.spl 32 ((K.cutS 10 Lt).1))).2.1 : Int)))) (by kernel_rfl) (congrArg Value.bool (decide_eq_false h_76))) ?_
                  refine K.RW.nil ?_
                  refine K.thn_normal ?_
                  refine K.KW.seq ?_
                  refine K.KW.ifF rfl ?_
                  refine K.KW.exit ?_
                  refine K.thn_exit ?_
                  refine K.thn_exit ?_
                  refine K.blk_hit ?_
                  refine K.blk_normal ?_
                  refine K.rq_normal_g 1 hS rfl hgl_48 ?_
                  clear hS; intro w gl_87 hgl_88 hS
                  replace hS : K.Sat w0 [g_58, gl_87, gd_32, gW2, gO2, g_8, g_5, g_2, fr, fr_38] w := hS
                  refine ⟨_, rfl, [gl_87, gd_32, gW2, gO2, g_8, g_5, g_2, fr].flatten, .inl ⟨rfl, (O ++ List.replicate (actW (K.spl 32 (K.cutS 10 Lt).1)).2.1.toNat (actW (K.spl 32 (K.cutS 10 Lt).1)).1), q2, c2, gW2, gO2, (by rw [List.length_append, List.length_replicate]; omega), (by unfold rowNx; have := cut_less (c := 10) hL; omega), (readG_ok hR hL (fun hh => hh.elim (fun h => absurd h h_49) (fun h35 => by have h36 := h_52; rw [h35] at h36; exact h36 rfl)) h0e (by omega)), (by (rw [show (actW (K.spl 32 (K.cutS 10 Lt).1)).2.1.toNat = j by omega]; exact x_74)), (by (rw [show (actW (K.spl 32 (K.cutS 10 Lt).1)).2.1.toNat = j by omega]; exact x_75)), by subst hgl_88; rfl⟩, (hS.pick [1, 2, 3, 4, 5, 6, 7, 8, 9]).of (by simp [K.pick, K.nth])⟩
          ·  -- no
            refine K.RW.q rfl rfl (K.QR.nice (v := .bool (((actW (K.spl 32 ((K.cutS 10 Lt).1))).2.2 : Int) == (0 : Int))) (by kernel_rfl) (congrArg Value.bool (beq_eq_false_iff_ne.2 h_60))) ?_
            refine K.RW.qs [.bool false] (by kernel_rfl) ?_
            refine K.RW.skip rfl (by kernel_rfl) ?_
            refine K.RW.skip rfl (by kernel_rfl) ?_
            refine K.RW.skip rfl (by kernel_rfl) ?_
            refine K.RW.skip rfl (by kernel_rfl) ?_
            refine K.RW.skip rfl (by kernel_rfl) ?_
            refine K.RW.qs [.bool false] (by kernel_rfl) ?_
            refine K.RW.nil ?_
            refine K.thn_normal ?_
            refine K.KW.ifF rfl ?_
            refine K.KW.skip ?_
            refine K.thn_normal ?_
            refine K.KW.seq ?_
            refine K.KW.seq ?_
            -- 11 :172
            refine K.KW.region ?_
            refine K.RW.qs [.int .i64 ((actW (K.spl 32 ((K.cutS 10 Lt).1))).2.2)] (by kernel_rfl) ?_
            refine K.RW.q rfl rfl (K.QR.nice (v := .bool (((actW (K.spl 32 ((K.cutS 10 Lt).1))).2.2 : Int) != (0 : Int))) (by kernel_rfl) (congrArg Value.bool (bne_iff_ne.2 h_60))) ?_
            refine K.RW.nil ?_
            refine K.thn_normal ?_
            refine K.KW.ifT rfl ?_
            refine K.KW.seq ?_
            -- 12 :173
            refine K.KW.region ?_
            refine K.RW.qs [.int .i64 ((k + 1 : Nat) : Int), .int .i64 ((actW (K.spl 32 ((K.cutS 10 Lt).1))).2.2)] (by kernel_rfl) ?_
            refine K.RW.l rfl (K.OW.gst 7 [.slice none 0 0] [.slice none 0 0] hS hg_3 ?_)
            clear hS; intro w g_89 hg_90 hS
            replace hS : K.Sat w0 [g_58, gl_47, gd_32, gW, gO, g_8, g_5, g_89, fr, fr_38] w := hS
            refine K.RW.l rfl (K.OW.gst 6 [.int .i64 ((k + 1 : Nat) : Int)] [.int .i64 ((k + 1 : Nat) : Int)] hS hg_6 ?_)
            clear hS; intro w g_91 hg_92 hS
            replace hS : K.Sat w0 [g_58, gl_47, gd_32, gW, gO, g_8, g_91, g_89, fr, fr_38] w := hS
            refine K.RW.l rfl (K.OW.gst 5 [.int .i64 ((actW (K.spl 32 ((K.cutS 10 Lt).1))).2.2)] [.int .i64 ((actW (K.spl 32 ((K.cutS 10 Lt).1))).2.2)] hS hg_9 ?_)
            clear hS; intro w g_93 hg_94 hS
            replace hS : K.Sat w0 [g_58, gl_47, gd_32, gW, gO, g_93, g_91, g_89, fr, fr_38] w := hS
            refine K.RW.nil ?_
            refine K.thn_normal ?_
            refine K.KW.ret ?_
            refine K.thn_ret ?_
            refine K.blk_ret ?_
            refine K.rq_ret_g 1 hS rfl hgl_48 ?_
            clear hS; intro w gl_95 hgl_96 hS
            replace hS : K.Sat w0 [g_58, gl_95, gd_32, gW, gO, g_93, g_91, g_89, fr, fr_38] w := hS
            refine ⟨_, rfl, [gl_95, gd_32, g_93, g_91, g_89, fr].flatten, .inr ⟨rfl, ((k + 1 : Nat) : Int), (actW (K.spl 32 ((K.cutS 10 Lt).1))).2.2, g_93, g_91, g_89, (readG_err hR hL (fun hh => hh.elim (fun h => absurd h h_49) (fun h35 => by have h36 := h_52; rw [h35] at h36; exact h36 rfl)) (by omega)), (hg_94), (hg_92), (hg_90), by subst hgl_96; rfl⟩, (hS.pick [1, 2, 5, 6, 7, 8, 9]).of (by simp [K.pick, K.nth])⟩
    ·
      clear hS; intro _ k _ w hJ_97 hS
      obtain ⟨O, q1, c1, gW, gO, hO, hk, hR, h_101, h_102, rfl⟩ := hJ_97
      replace hS : K.Sat w0 [[(lp_31, Obj.loop rec_36)], gd_32, gW, gO, g_8, g_5, g_2, fr] w := hS.of (by simp [K.pick, K.nth])
      obtain ⟨gl_103, hgl_104⟩ : ∃ g : K.Cs, g = [(lp_31, Obj.loop rec_36)] := ⟨_, rfl⟩
      replace hS : K.Sat w0 [gl_103, gd_32, gW, gO, g_8, g_5, g_2, fr] w := by rw [hgl_104]; exact hS
      subst hrec_37
      refine K.gafter 0 [1, 2, 3, 4, 5, 6, 7] hS rfl hgl_104 (fun h => by cases h) ?_
      clear hS; intro w hS
      replace hS : K.Sat w0 [gd_32, gW, gO, g_8, g_5, g_2, fr] w := hS
      refine K.afterR_none rfl ?_
      refine K.blk_normal ?_
      refine K.thn_normal ?_
      refine K.KW.seq ?_
      -- 17 :179
      refine K.KW.region ?_
      refine K.RW.q rfl rfl (K.QR.ld1 (v := .slice q1 O.length c1) rfl rfl (by kernel_rfl) ((hS.blk 2 rfl h_102).cell rfl)) ?_
      refine K.RW.l rfl (K.OW.gst 5 [.slice q1 O.length c1] [.slice q1 O.length c1] hS hg_3 ?_)
      clear hS; intro w g_105 hg_106 hS
      replace hS : K.Sat w0 [gd_32, gW, gO, g_8, g_5, g_105, fr] w := hS
      refine K.RW.l rfl (K.OW.gst 4 [.int .i64 0] [.int .i64 0] hS hg_6 ?_)
      clear hS; intro w g_107 hg_108 hS
      replace hS : K.Sat w0 [gd_32, gW, gO, g_8, g_107, g_105, fr] w := hS
      refine K.RW.l rfl (K.OW.gst 3 [.int .i64 0] [.int .i64 0] hS hg_9 ?_)
      clear hS; intro w g_109 hg_110 hS
      replace hS : K.Sat w0 [gd_32, gW, gO, g_109, g_107, g_105, fr] w := hS
      refine K.RW.nil ?_
      refine K.thn_normal ?_
      refine K.KW.ret ?_
      refine ⟨.inr rfl, .inr ⟨_, rfl, K.endD 0 [1, 2, 3, 4, 5, 6] hS rfl hgd_34 ?_⟩⟩
      clear hS; intro w hS
      replace hS : K.Sat w0 [gW, gO, g_109, g_107, g_105, fr] w := hS
      have e : readM l = (O, 0, 0) := hR.symm
      refine ⟨(.tuple #[.slice q1 O.length c1, .int .i64 0, .int .i64 0]), K.resAt (rs := [.cell 2 54, .cell 3 3, .cell 4 30]) [.slice q1 O.length c1, .int .i64 0, .int .i64 0] rfl ⟨⟨_, rfl, K.lv1 (by kernel_rfl) ((hS.blk 4 rfl hg_106).cell rfl)⟩, ⟨_, rfl, K.lv1 (by kernel_rfl) ((hS.blk 3 rfl hg_108).cell rfl)⟩, ⟨_, rfl, K.lv1 (by kernel_rfl) ((hS.blk 2 rfl hg_110).cell rfl)⟩, trivial⟩, [gW], ?_, hS.pick [0, 5]⟩
      exact ⟨_, _, _, rfl, by rw [e], by rw [e]; exact h_101⟩
    ·
      clear hS; intro _ _ w hJ_111 hS
      obtain ⟨n, e, gc, gb, ga, hE, h_113, h_114, h_115, rfl⟩ := hJ_111
      replace hS : K.Sat w0 [[(lp_31, Obj.loop { rec_36 with state := .done, pending := some .ret })], gd_32, gc, gb, ga, fr] w := hS.of (by simp [K.pick, K.nth])
      obtain ⟨gl_116, hgl_117⟩ : ∃ g : K.Cs, g = [(lp_31, Obj.loop { rec_36 with state := .done, pending := some .ret })] := ⟨_, rfl⟩
      replace hS : K.Sat w0 [gl_116, gd_32, gc, gb, ga, fr] w := by rw [hgl_117]; exact hS
      subst hrec_37
      refine K.gafter 0 [1, 2, 3, 4, 5] hS rfl hgl_117 (fun h => by cases h) ?_
      clear hS; intro w hS
      replace hS : K.Sat w0 [gd_32, gc, gb, ga, fr] w := hS
      refine K.afterR_ret rfl ?_
      refine K.blk_ret ?_
      refine K.thn_ret ?_
      refine ⟨.inr rfl, .inr ⟨_, rfl, K.endD 0 [1, 2, 3, 4] hS rfl hgd_34 ?_⟩⟩
      clear hS; intro w hS
      replace hS : K.Sat w0 [gc, gb, ga, fr] w := hS
      obtain ⟨z_118, hz_119⟩ : ∃ z : K.Cs, z = [] := ⟨_, rfl⟩
      replace hS : K.Sat w0 [z_118, gc, gb, ga, fr] w := hS.of (by simp [hz_119])
      have o_120 : K.OwnG z_118 57 6 none 0 0 [] := by rw [hz_119]; exact K.OwnG.nil _ _
      refine ⟨(.tuple #[.slice none 0 0, .int .i64 n, .int .i64 e]), K.resAt (rs := [.cell 2 54, .cell 3 3, .cell 4 30]) [.slice none 0 0, .int .i64 n, .int .i64 e] rfl ⟨⟨_, rfl, K.lv1 (by kernel_rfl) ((hS.blk 3 rfl h_115).cell rfl)⟩, ⟨_, rfl, K.lv1 (by kernel_rfl) ((hS.blk 2 rfl h_114).cell rfl)⟩, ⟨_, rfl, K.lv1 (by kernel_rfl) ((hS.blk 1 rfl h_113).cell rfl)⟩, trivial⟩, [z_118], ?_, hS.pick [0, 4]⟩
      exact ⟨_, _, _, rfl, by rw [hE]; rfl, by rw [hE]; exact o_120⟩
end Go.Proofs.YtnehocjmgnhhhaaDoor
