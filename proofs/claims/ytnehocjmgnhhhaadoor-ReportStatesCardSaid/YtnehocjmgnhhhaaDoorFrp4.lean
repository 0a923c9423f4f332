import Derived.Test.YtnehocjmgnhhhaaDoorFrp3
/- Reports: a call read out of its line. -/
namespace Go.Proofs.YtnehocjmgnhhhaaDoor
open Go.RowKit
set_option linter.unusedVariables false
attribute [local irreducible] K.KW K.RW K.DW K.OW K.QR K.KC
set_option maxHeartbeats 1000000 in
set_option maxRecDepth 100000 in
theorem next_ok (w0 : World) (bl : Nat) (a : Option Addr) (cap : Nat) (L : List (List UInt8)) (gl : K.Cs) (hl : gl = [K.pt bl 68 [.slice a L.length cap]]) (gr : K.Cs) (hx : ∀ w, K.Sat w0 [gr] w → K.RowE w a L.length 1 (fun i => K.cStr (L.getD i []))) (hc : L.length ≤ cap) (h0 : 0 < L.length) :
    K.GC Tryd.prog w0 32 #[.pointer (some ⟨bl, 0, none⟩)] [gl, gr] (fun v post => ∃ a' cap' gl', gl' = [K.pt bl 68 [.slice a' (L.drop 1).length cap']] ∧ (L.drop 1).length ≤ cap' ∧ (∀ w, K.Sat w0 [gr] w → K.RowE w a' (L.drop 1).length 1 (fun i => K.cStr ((L.drop 1).getD i []))) ∧ post = [gl', gr] ∧ v = .string (K.sb (L.getD 0 []))) := by
  refine K.GC.mk (n := 9) Tryd.func32 rfl rfl [.pointer (some ⟨bl, 0, none⟩)] rfl rfl ?_
  intro fr w hS
  replace hS : K.Sat w0 [gl, gr, fr] w := hS
  refine K.KW.seq ?_
  -- 0 :99
  refine K.KW.region ?_
  refine K.RW.qs [.string (K.sb [])] (by kernel_rfl) ?_
  refine K.RW.nil ?_
  refine K.thn_normal ?_
  refine K.KW.seq ?_
  -- 1 :100
  obtain ⟨b_1, of_2, rfl, _⟩ := (hx _ (hS.pick [1])).at_ (by omega)
  refine K.KW.region ?_
  refine K.RW.q rfl rfl (K.QR.ld1 (v := .slice (some ⟨b_1, of_2, none⟩) L.length cap) rfl rfl (by kernel_rfl) ((hS.blk 0 rfl hl).cell rfl)) ?_
  refine K.RW.q rfl rfl (K.QR.ix (of_2 + 0 * 1) 1 rfl rfl rfl Tryd.underlying68 (by kernel_rfl) (by omega) (by first | (simp; done) | omega | (simp; omega))) ?_
  refine K.RW.q rfl rfl (K.QR.ld1 (v := .string (K.sb (L.getD 0 []))) rfl rfl (by kernel_rfl) ((hx _ (hS.pick [1])).ld 0 (by omega) 0 _ rfl)) ?_
  refine K.RW.qs [.string (K.sb (L.getD 0 []))] (by kernel_rfl) ?_
  refine K.RW.nil ?_
  refine K.thn_normal ?_
  refine K.KW.seq ?_
  -- 2 :101
  refine K.KW.region ?_
  refine K.RW.q rfl rfl (K.QR.ld1 (v := .slice (some ⟨b_1, of_2, none⟩) L.length cap) rfl rfl (by kernel_rfl) ((hS.blk 0 rfl hl).cell rfl)) ?_
  obtain ⟨as_5, has_6⟩ : ∃ q, q = K.shift (some ⟨b_1, of_2, none⟩) cap 1 1 := ⟨_, rfl⟩
  have x_3 : ∀ w, K.Sat w0 [gr] w → K.RowE w as_5 (L.drop 1).length 1 (fun i => K.cStr ((L.drop 1).getD i [])) := fun w h => has_6 ▸ K.RowE.drop (c := K.cStr) (d := []) (L := L) (cap := cap) (hx w h) 1 (by first | omega | (simp; done) | (simp; omega)) (by omega)
  have n_4 : (L.drop 1).length = L.length - 1 := List.length_drop
  refine K.RW.q rfl rfl (K.QR.turn (v' := .slice as_5 ((L.drop 1).length) (cap - 1)) (K.QR.slLo (size := 1) (m := L.length) (k := ((L.drop 1).length)) 1 rfl rfl rfl Tryd.underlying68 (by kernel_rfl) (by first | omega | (simp; done) | (simp; omega)) (by first | omega | (simp; done) | (simp; omega))) (by rw [has_6])) ?_
  refine K.RW.l rfl (K.OW.gst 0 [.slice as_5 ((L.drop 1).length) (cap - 1)] [.slice as_5 ((L.drop 1).length) (cap - 1)] hS hl ?_)
  clear hS; intro w g_7 hg_8 hS
  replace hS : K.Sat w0 [g_7, gr, fr] w := hS
  refine K.RW.nil ?_
  refine K.thn_normal ?_
  refine K.KW.seq ?_
  -- 3 :102
  refine K.KW.region ?_
  refine K.RW.qs [.string (K.sb (L.getD 0 [])), .string (K.sb (L.getD 0 []))] (by kernel_rfl) ?_
  refine K.RW.nil ?_
  refine K.thn_normal ?_
  refine K.KW.ret ?_
  refine ⟨.inr rfl, rfl, (.string (K.sb (L.getD 0 []))), K.res1 rfl rfl, [g_7, gr], ?_, hS.pick [0, 1, 2]⟩
  exact ⟨as_5, (cap - 1), g_7, hg_8, by omega, x_3, rfl, rfl⟩
set_option maxHeartbeats 1000000 in
set_option maxRecDepth 100000 in
theorem count_ok (w0 : World) (most : Int) (hm : most ≤ 1099511627776) (bl : Nat) (a : Option Addr) (cap : Nat) (L : List (List UInt8)) (gl : K.Cs) (hl : gl = [K.pt bl 68 [.slice a L.length cap]]) (gr : K.Cs) (hx : ∀ w, K.Sat w0 [gr] w → K.RowE w a L.length 1 (fun i => K.cStr (L.getD i []))) (hc : L.length ≤ cap) (h0 : 0 < L.length) (hlen : (L.getD 0 []).length ≤ 1000000) (bi bn : Nat) (b : Bool) (gi gn : K.Cs) (hi : gi = [K.pt bi 4 [.bool b]]) (hn : gn = [K.pt bn 70 [.func (.func 32) #[] #[.pointer (some ⟨bl, 0, none⟩)]]]) :
    K.GC Tryd.prog w0 33 #[.int .i64 most, .pointer (some ⟨bn, 0, none⟩), .pointer (some ⟨bi, 0, none⟩)] [gl, gr, gi, gn] (fun v post => ∃ a' cap' gl', gl' = [K.pt bl 68 [.slice a' (L.drop 1).length cap']] ∧ (L.drop 1).length ≤ cap' ∧ (∀ w, K.Sat w0 [gr] w → K.RowE w a' (L.drop 1).length 1 (fun i => K.cStr ((L.drop 1).getD i []))) ∧ ∃ gi' b', gi' = [K.pt bi 4 [.bool b']] ∧ b' = (b && decide (0 ≤ numR (L.getD 0 []) most)) ∧ post = [gl', gr, gi', gn] ∧ v = .int .i64 (numR (L.getD 0 []) most)) := by
  refine K.GC.mk (n := 16) Tryd.func33 rfl rfl [.int .i64 most, .pointer (some ⟨bn, 0, none⟩), .pointer (some ⟨bi, 0, none⟩)] rfl rfl ?_
  intro fr w hS
  replace hS : K.Sat w0 [gl, gr, gi, gn, fr] w := hS
  refine K.KW.seq ?_
  -- 0 :104
  refine K.KW.region ?_
  refine K.RW.qs [.int .i64 0] (by kernel_rfl) ?_
  refine K.RW.nil ?_
  refine K.thn_normal ?_
  refine K.KW.seq ?_
  -- 1 :105
  refine K.KW.region ?_
  refine K.RW.q rfl rfl (K.QR.ld1 (v := .func (.func 32) [].toArray [.pointer (some ⟨bl, 0, none⟩)].toArray) rfl rfl (by kernel_rfl) ((hS.blk 3 rfl hn).cell rfl)) ?_
  refine K.RW.l rfl (K.OW.gcallw hS [0, 1] [2, 3, 4] [.pointer (some ⟨bl, 0, none⟩)] (next_ok _ bl a cap L _ hl _ hx (by first | omega | assumption) (by first | omega | (simp; done))) ?_)
  clear hS; rintro _ _ w ⟨a_1, cap_2, gl_3, hl_4, hc_5, hx_6, rfl, rfl⟩ hS
  replace hS : K.Sat w0 [gl_3, gr, gi, gn, fr] w := hS
  replace hl_4 : gl_3 = [K.pt bl 68 [.slice a_1 ((L.drop 1).length) cap_2]] := hl_4
  replace hx_6 : ∀ w, K.Sat w0 [gr] w → K.RowE w a_1 ((L.drop 1).length) 1 (fun i => K.cStr ((L.drop 1).getD i [])) := hx_6
  refine K.RW.qs [.int .i64 most] (by kernel_rfl) ?_
  refine K.RW.l rfl (K.OW.gcall hS [] [0, 1, 2, 3, 4] [.string (K.sb (L.getD 0 [])), .int .i64 most] (number_ok _ (L.getD 0 []) most (by omega) (by omega)) ?_)
  clear hS; rintro _ _ w ⟨rfl, rfl⟩ hS
  replace hS : K.Sat w0 [gl_3, gr, gi, gn, fr] w := hS
  refine K.RW.qs [.int .i64 (numR (L.getD 0 []) most)] (by kernel_rfl) ?_
  refine K.RW.nil ?_
  refine K.thn_normal ?_
  refine K.KW.seq ?_
  -- 2 :106
  refine K.KW.region ?_
  refine K.RW.q rfl rfl (K.QR.ld1 (v := .bool b) rfl rfl (by kernel_rfl) ((hS.blk 2 rfl hi).cell rfl)) ?_
  cases hb_7 : b
  ·
    refine K.RW.qs [.bool false] (by kernel_rfl) ?_
    refine K.RW.skip rfl (by kernel_rfl) ?_
    refine K.RW.skip rfl (by kernel_rfl) ?_
    refine K.RW.qs [.bool false] (by kernel_rfl) ?_
    refine K.RW.l rfl (K.OW.gst 2 [.bool false] [.bool false] hS hi ?_)
    clear hS; intro w g_8 hg_9 hS
    replace hS : K.Sat w0 [gl_3, gr, g_8, gn, fr] w := hS
    refine K.RW.nil ?_
    refine K.thn_normal ?_
    refine K.KW.seq ?_
    -- 3 :107
    refine K.KW.region ?_
    refine K.RW.qs [.int .i64 (numR (L.getD 0 []) most), .int .i64 (numR (L.getD 0 []) most)] (by kernel_rfl) ?_
    refine K.RW.nil ?_
    refine K.thn_normal ?_
    refine K.KW.ret ?_
    refine ⟨.inr rfl, rfl, (.int .i64 (numR (L.getD 0 []) most)), K.res1 rfl rfl, [gl_3, gr, g_8, gn], ?_, hS.pick [0, 1, 2, 3, 4]⟩
    exact ⟨a_1, cap_2, gl_3, hl_4, hc_5, hx_6, g_8, _, hg_9, by first | rfl | exact K.and_t (by omega) | exact K.and_f (by omega), rfl, rfl⟩
  ·
    refine K.RW.qs [.bool true, .int .i64 (numR (L.getD 0 []) most)] (by kernel_rfl) ?_
    by_cases h_10 : ((numR (L.getD 0 []) most) : Int) ≥ (0 : Int)
    ·  -- yes
      refine K.RW.q rfl (by kernel_rfl) (K.QR.nice (v := .bool (decide (((numR (L.getD 0 []) most) : Int) ≥ (0 : Int)))) (by kernel_rfl) (congrArg Value.bool (decide_eq_true h_10))) ?_
      refine K.RW.qs [.bool true] (by kernel_rfl) ?_
      refine K.RW.l rfl (K.OW.gst 2 [.bool true] [.bool true] hS hi ?_)
      clear hS; intro w g_11 hg_12 hS
      replace hS : K.Sat w0 [gl_3, gr, g_11, gn, fr] w := hS
      refine K.RW.nil ?_
      refine K.thn_normal ?_
      refine K.KW.seq ?_
      -- 3 :107
      refine K.KW.region ?_
      refine K.RW.qs [.int .i64 (numR (L.getD 0 []) most), .int .i64 (numR (L.getD 0 []) most)] (by kernel_rfl) ?_
      refine K.RW.nil ?_
      refine K.thn_normal ?_
      refine K.KW.ret ?_
      refine ⟨.inr rfl, rfl, (.int .i64 (numR (L.getD 0 []) most)), K.res1 rfl rfl, [gl_3, gr, g_11, gn], ?_, hS.pick [0, 1, 2, 3, 4]⟩
      exact ⟨a_1, cap_2, gl_3, hl_4, hc_5, hx_6, g_11, _, hg_12, by first | rfl | exact K.and_t (by omega) | exact K.and_f (by omega), rfl, rfl⟩
    ·  -- no
      refine K.RW.q rfl (by kernel_rfl) (K.QR.nice (v := .bool (decide (((numR (L.getD 0 []) most) : Int) ≥ (0 : Int)))) (by kernel_rfl) (congrArg Value.bool (decide_eq_false h_10))) ?_
      refine K.RW.qs [.bool false] (by kernel_rfl) ?_
      refine K.RW.l rfl (K.OW.gst 2 [.bool false] [.bool false] hS hi ?_)
      clear hS; intro w g_13 hg_14 hS
      replace hS : K.Sat w0 [gl_3, gr, g_13, gn, fr] w := hS
      refine K.RW.nil ?_
      refine K.thn_normal ?_
      refine K.KW.seq ?_
      -- 3 :107
      refine K.KW.region ?_
      refine K.RW.qs [.int .i64 (numR (L.getD 0 []) most), .int .i64 (numR (L.getD 0 []) most)] (by kernel_rfl) ?_
      refine K.RW.nil ?_
      refine K.thn_normal ?_
      refine K.KW.ret ?_
      refine ⟨.inr rfl, rfl, (.int .i64 (numR (L.getD 0 []) most)), K.res1 rfl rfl, [gl_3, gr, g_13, gn], ?_, hS.pick [0, 1, 2, 3, 4]⟩
      exact ⟨a_1, cap_2, gl_3, hl_4, hc_5, hx_6, g_13, _, hg_14, by first | rfl | exact K.and_t (by omega) | exact K.and_f (by omega), rfl, rfl⟩
set_option maxHeartbeats 1000000 in
set_option maxRecDepth 100000 in
theorem named_ok (w0 : World) (an : Option Addr) (capn : Nat) (M : List (List UInt8)) (hM : M.length ≤ 1000000) (gm : K.Cs) (hxm : ∀ w, K.Sat w0 [gm] w → K.RowE w an M.length 1 (fun i => K.cStr (M.getD i [])))(bl : Nat) (a : Option Addr) (cap : Nat) (L : List (List UInt8)) (gl : K.Cs) (hl : gl = [K.pt bl 68 [.slice a L.length cap]]) (gr : K.Cs) (hx : ∀ w, K.Sat w0 [gr] w → K.RowE w a L.length 1 (fun i => K.cStr (L.getD i []))) (hc : L.length ≤ cap) (h0 : 0 < L.length)(bi bn : Nat) (b : Bool) (gi gn : K.Cs) (hi : gi = [K.pt bi 4 [.bool b]]) (hn : gn = [K.pt bn 70 [.func (.func 32) #[] #[.pointer (some ⟨bl, 0, none⟩)]]]) :
    K.GC Tryd.prog w0 35 #[.slice an M.length capn, .pointer (some ⟨bn, 0, none⟩), .pointer (some ⟨bi, 0, none⟩)] [gm, gl, gr, gi, gn] (fun v post => ∃ a' cap' gl', gl' = [K.pt bl 68 [.slice a' (L.drop 1).length cap']] ∧ (L.drop 1).length ≤ cap' ∧ (∀ w, K.Sat w0 [gr] w → K.RowE w a' (L.drop 1).length 1 (fun i => K.cStr ((L.drop 1).getD i []))) ∧ ∃ gi' b', gi' = [K.pt bi 4 [.bool b']] ∧ b' = (b && decide (0 ≤ K.ixS (L.getD 0 []) M ∧ ¬ L.getD 0 [] = [])) ∧ post = [gm, gl', gr, gi', gn] ∧ v = .int .i64 (K.ixS (L.getD 0 []) M)) := by
  refine K.GC.mk (n := 22) Tryd.func35 rfl rfl [.slice an M.length capn, .pointer (some ⟨bn, 0, none⟩), .pointer (some ⟨bi, 0, none⟩)] rfl rfl ?_
  intro fr w hS
  replace hS : K.Sat w0 [gm, gl, gr, gi, gn, fr] w := hS
  refine K.KW.seq ?_
  -- 0 :109
  refine K.KW.region ?_
  refine K.RW.qs [.int .i64 0] (by kernel_rfl) ?_
  refine K.RW.nil ?_
  refine K.thn_normal ?_
  refine K.KW.seq ?_
  -- 1 :110
  refine K.KW.region ?_
  refine K.RW.q rfl rfl (K.QR.ld1 (v := .func (.func 32) [].toArray [.pointer (some ⟨bl, 0, none⟩)].toArray) rfl rfl (by kernel_rfl) ((hS.blk 4 rfl hn).cell rfl)) ?_
  refine K.RW.l rfl (K.OW.gcallw hS [1, 2] [0, 3, 4, 5] [.pointer (some ⟨bl, 0, none⟩)] (next_ok _ bl a cap L _ hl _ hx (by first | omega | assumption) (by first | omega | (simp; done))) ?_)
  clear hS; rintro _ _ w ⟨a_1, cap_2, gl_3, hl_4, hc_5, hx_6, rfl, rfl⟩ hS
  replace hS : K.Sat w0 [gl_3, gr, gm, gi, gn, fr] w := hS
  replace hl_4 : gl_3 = [K.pt bl 68 [.slice a_1 ((L.drop 1).length) cap_2]] := hl_4
  replace hx_6 : ∀ w, K.Sat w0 [gr] w → K.RowE w a_1 ((L.drop 1).length) 1 (fun i => K.cStr ((L.drop 1).getD i [])) := hx_6
  refine K.RW.qs [.string (K.sb (L.getD 0 []))] (by kernel_rfl) ?_
  refine K.RW.nil ?_
  refine K.thn_normal ?_
  refine K.KW.seq ?_
  -- 2 :111
  refine K.KW.region ?_
  refine K.RW.qs [.slice an M.length capn, .string (K.sb (L.getD 0 []))] (by kernel_rfl) ?_
  refine K.RW.l rfl (K.OW.gcall hS [2] [0, 1, 3, 4, 5] [.slice an M.length capn, .string (K.sb (L.getD 0 []))] (ixs_ok _ _ _ M (L.getD 0 []) (by omega) _ hxm) ?_)
  clear hS; rintro _ _ w ⟨rfl, rfl⟩ hS
  replace hS : K.Sat w0 [gm, gl_3, gr, gi, gn, fr] w := hS
  refine K.RW.qs [.int .i64 (K.ixS (L.getD 0 []) M)] (by kernel_rfl) ?_
  refine K.RW.nil ?_
  refine K.thn_normal ?_
  refine K.KW.seq ?_
  -- 3 :112
  refine K.KW.region ?_
  refine K.RW.q rfl rfl (K.QR.ld1 (v := .bool b) rfl rfl (by kernel_rfl) ((hS.blk 3 rfl hi).cell rfl)) ?_
  refine K.RW.qs [.bool b] (by kernel_rfl) ?_
  cases hb_7 : b
  ·
    refine K.RW.skip rfl (by kernel_rfl) ?_
    refine K.RW.skip rfl (by kernel_rfl) ?_
    refine K.RW.qs [.bool false, .bool false] (by kernel_rfl) ?_
    refine K.RW.skip rfl (by kernel_rfl) ?_
    refine K.RW.skip rfl (by kernel_rfl) ?_
    refine K.RW.qs [.bool false] (by kernel_rfl) ?_
    refine K.RW.l rfl (K.OW.gst 3 [.bool false] [.bool false] hS hi ?_)
    clear hS; intro w g_8 hg_9 hS
    replace hS : K.Sat w0 [gm, gl_3, gr, g_8, gn, fr] w := hS
    refine K.RW.nil ?_
    refine K.thn_normal ?_
    refine K.KW.seq ?_
    -- 4 :113
    refine K.KW.region ?_
    refine K.RW.qs [.int .i64 (K.ixS (L.getD 0 []) M), .int .i64 (K.ixS (L.getD 0 []) M)] (by kernel_rfl) ?_
    refine K.RW.nil ?_
    refine K.thn_normal ?_
    refine K.KW.ret ?_
    refine ⟨.inr rfl, rfl, (.int .i64 (K.ixS (L.getD 0 []) M)), K.res1 rfl rfl, [gm, gl_3, gr, g_8, gn], ?_, hS.pick [0, 1, 2, 3, 4, 5]⟩
    exact ⟨a_1, cap_2, gl_3, hl_4, hc_5, hx_6, g_8, _, hg_9, by first | rfl | exact K.and_t ⟨by omega, by assumption⟩ | exact K.and_f (fun hh => by first | (have := hh.1; omega) | exact absurd (by assumption) hh.2), rfl, rfl⟩
  ·
    refine K.RW.qs [.int .i64 (K.ixS (L.getD 0 []) M)] (by kernel_rfl) ?_
    by_cases h_10 : ((K.ixS (L.getD 0 []) M) : Int) ≥ (0 : Int)
    ·  -- yes
      refine K.RW.q rfl (by kernel_rfl) (K.QR.nice (v := .bool (decide (((K.ixS (L.getD 0 []) M) : Int) ≥ (0 : Int)))) (by kernel_rfl) (congrArg Value.bool (decide_eq_true h_10))) ?_
      refine K.RW.qs [.bool true, .bool true, .string (K.sb (L.getD 0 []))] (by kernel_rfl) ?_
      by_cases h_11 : (L.getD 0 []) = ([] : List UInt8)
      ·  -- yes
        refine K.RW.q rfl (by kernel_rfl) (K.QR.sNe (xs := (L.getD 0 [])) (ys := []) false rfl rfl rfl (K.ndeq_t h_11)) ?_
        refine K.RW.qs [.bool false] (by kernel_rfl) ?_
        refine K.RW.l rfl (K.OW.gst 3 [.bool false] [.bool false] hS hi ?_)
        clear hS; intro w g_12 hg_13 hS
        replace hS : K.Sat w0 [gm, gl_3, gr, g_12, gn, fr] w := hS
        refine K.RW.nil ?_
        refine K.thn_normal ?_
        refine K.KW.seq ?_
        -- 4 :113
        refine K.KW.region ?_
        refine K.RW.qs [.int .i64 (K.ixS (L.getD 0 []) M), .int .i64 (K.ixS (L.getD 0 []) M)] (by kernel_rfl) ?_
        refine K.RW.nil ?_
        refine K.thn_normal ?_
        refine K.KW.ret ?_
        refine ⟨.inr rfl, rfl, (.int .i64 (K.ixS (L.getD 0 []) M)), K.res1 rfl rfl, [gm, gl_3, gr, g_12, gn], ?_, hS.pick [0, 1, 2, 3, 4, 5]⟩
        exact ⟨a_1, cap_2, gl_3, hl_4, hc_5, hx_6, g_12, _, hg_13, by first | rfl | exact K.and_t ⟨by omega, by assumption⟩ | exact K.and_f (fun hh => by first | (have := hh.1; omega) | exact absurd (by assumption) hh.2), rfl, rfl⟩
      ·  -- no
        refine K.RW.q rfl (by kernel_rfl) (K.QR.sNe (xs := (L.getD 0 [])) (ys := []) true rfl rfl rfl (K.ndeq_f h_11)) ?_
        refine K.RW.qs [.bool true] (by kernel_rfl) ?_
        refine K.RW.l rfl (K.OW.gst 3 [.bool true] [.bool true] hS hi ?_)
        clear hS; intro w g_14 hg_15 hS
        replace hS : K.Sat w0 [gm, gl_3, gr, g_14, gn, fr] w := hS
        refine K.RW.nil ?_
        refine K.thn_normal ?_
        refine K.KW.seq ?_
        -- 4 :113
        refine K.KW.region ?_
        refine K.RW.qs [.int .i64 (K.ixS (L.getD 0 []) M), .int .i64 (K.ixS (L.getD 0 []) M)] (by kernel_rfl) ?_
        refine K.RW.nil ?_
        refine K.thn_normal ?_
        refine K.KW.ret ?_
        refine ⟨.inr rfl, rfl, (.int .i64 (K.ixS (L.getD 0 []) M)), K.res1 rfl rfl, [gm, gl_3, gr, g_14, gn], ?_, hS.pick [0, 1, 2, 3, 4, 5]⟩
        exact ⟨a_1, cap_2, gl_3, hl_4, hc_5, hx_6, g_14, _, hg_15, by first | rfl | exact K.and_t ⟨by omega, by assumption⟩ | exact K.and_f (fun hh => by first | (have := hh.1; omega) | exact absurd (by assumption) hh.2), rfl, rfl⟩
    ·  -- no
      refine K.RW.q rfl (by kernel_rfl) (K.QR.nice (v := .bool (decide (((K.ixS (L.getD 0 []) M) : Int) ≥ (0 : Int)))) (by kernel_rfl) (congrArg Value.bool (decide_eq_false h_10))) ?_
      refine K.RW.qs [.bool false, .bool false] (by kernel_rfl) ?_
      refine K.RW.skip rfl (by kernel_rfl) ?_
      refine K.RW.skip rfl (by kernel_rfl) ?_
      refine K.RW.qs [.bool false] (by kernel_rfl) ?_
      refine K.RW.l rfl (K.OW.gst 3 [.bool false] [.bool false] hS hi ?_)
      clear hS; intro w g_16 hg_17 hS
      replace hS : K.Sat w0 [gm, gl_3, gr, g_16, gn, fr] w := hS
      refine K.RW.nil ?_
      refine K.thn_normal ?_
      refine K.KW.seq ?_
      -- 4 :113
      refine K.KW.region ?_
      refine K.RW.qs [.int .i64 (K.ixS (L.getD 0 []) M), .int .i64 (K.ixS (L.getD 0 []) M)] (by kernel_rfl) ?_
      refine K.RW.nil ?_
      refine K.thn_normal ?_
      refine K.KW.ret ?_
      refine ⟨.inr rfl, rfl, (.int .i64 (K.ixS (L.getD 0 []) M)), K.res1 rfl rfl, [gm, gl_3, gr, g_16, gn], ?_, hS.pick [0, 1, 2, 3, 4, 5]⟩
      exact ⟨a_1, cap_2, gl_3, hl_4, hc_5, hx_6, g_16, _, hg_17, by first | rfl | exact K.and_t ⟨by omega, by assumption⟩ | exact K.and_f (fun hh => by first | (have := hh.1; omega) | exact absurd (by assumption) hh.2), rfl, rfl⟩
/-- a time as it is read: '-' is none -/
def whenR (x : List UInt8) : Int := if x = [45] then -1 else numR x 1099511627776
theorem when_b {b b' : Bool} {x : List UInt8} (h : ¬ x = [45]) (hb : b' = (b && decide (0 ≤ numR x 1099511627776))) : b' = (b && decide (x = [45] ∨ 0 ≤ numR x 1099511627776)) := by rw [hb]; simp [h]
theorem when_n {b : Bool} {x : List UInt8} {p : Prop} [Decidable p] (h : x = [45]) : b = (b && decide (x = [45] ∨ p)) := by simp [h]
set_option maxHeartbeats 1000000 in
set_option maxRecDepth 100000 in
theorem when_ok (w0 : World) (bl : Nat) (a : Option Addr) (cap : Nat) (L : List (List UInt8)) (gl : K.Cs) (hl : gl = [K.pt bl 68 [.slice a L.length cap]]) (gr : K.Cs) (hx : ∀ w, K.Sat w0 [gr] w → K.RowE w a L.length 1 (fun i => K.cStr (L.getD i []))) (hc : L.length ≤ cap) (h0 : 0 < L.length) (hlen : (L.getD 0 []).length ≤ 1000000) (bi bn : Nat) (b : Bool) (gi gn : K.Cs) (hi : gi = [K.pt bi 4 [.bool b]]) (hn : gn = [K.pt bn 70 [.func (.func 32) #[] #[.pointer (some ⟨bl, 0, none⟩)]]]) (bc : Nat) (gc : K.Cs) (hcc : gc = [K.pt bc 72 [.func (.func 33) #[] #[.pointer (some ⟨bn, 0, none⟩), .pointer (some ⟨bi, 0, none⟩)]]]) :
    K.GC Tryd.prog w0 37 #[.pointer (some ⟨bl, 0, none⟩), .pointer (some ⟨bn, 0, none⟩), .pointer (some ⟨bc, 0, none⟩)] [gl, gr, gi, gn, gc] (fun v post => ∃ a' cap' gl', gl' = [K.pt bl 68 [.slice a' (L.drop 1).length cap']] ∧ (L.drop 1).length ≤ cap' ∧ (∀ w, K.Sat w0 [gr] w → K.RowE w a' (L.drop 1).length 1 (fun i => K.cStr ((L.drop 1).getD i []))) ∧ ∃ gi' b', gi' = [K.pt bi 4 [.bool b']] ∧ b' = (b && decide (L.getD 0 [] = [45] ∨ 0 ≤ numR (L.getD 0 []) 1099511627776)) ∧ post = [gl', gr, gi', gn, gc] ∧ v = .int .i64 (whenR (L.getD 0 []))) := by
  refine K.GC.mk (n := 12) Tryd.func37 rfl rfl [.pointer (some ⟨bl, 0, none⟩), .pointer (some ⟨bn, 0, none⟩), .pointer (some ⟨bc, 0, none⟩)] rfl rfl ?_
  intro fr w hS
  replace hS : K.Sat w0 [gl, gr, gi, gn, gc, fr] w := hS
  refine K.KW.seq ?_
  -- 0 :115
  refine K.KW.region ?_
  refine K.RW.qs [.int .i64 0] (by kernel_rfl) ?_
  refine K.RW.nil ?_
  refine K.thn_normal ?_
  refine K.KW.seq ?_
  refine K.KW.seq ?_
  -- 1 :116
  obtain ⟨b_1, of_2, rfl, _⟩ := (hx _ (hS.pick [1])).at_ (by omega)
  refine K.KW.region ?_
  refine K.RW.q rfl rfl (K.QR.ld1 (v := .slice (some ⟨b_1, of_2, none⟩) L.length cap) rfl rfl (by kernel_rfl) ((hS.blk 0 rfl hl).cell rfl)) ?_
  refine K.RW.q rfl rfl (K.QR.ix (of_2 + 0 * 1) 1 rfl rfl rfl Tryd.underlying68 (by kernel_rfl) (by omega) (by first | (simp; done) | omega | (simp; omega))) ?_
  refine K.RW.q rfl rfl (K.QR.ld1 (v := .string (K.sb (L.getD 0 []))) rfl rfl (by kernel_rfl) ((hx _ (hS.pick [1])).ld 0 (by omega) 0 _ rfl)) ?_
  by_cases h_3 : (L.getD 0 []) = ([45] : List UInt8)
  ·  -- yes
    refine K.RW.q rfl rfl (K.QR.sEq (xs := L.getD 0 []) (ys := [45]) true rfl rfl rfl (K.deq_t h_3)) ?_
    refine K.RW.nil ?_
    refine K.thn_normal ?_
    refine K.KW.ifT rfl ?_
    refine K.KW.seq ?_
    -- 2 :117
    refine K.KW.region ?_
    refine K.RW.q rfl rfl (K.QR.ld1 (v := .func (.func 32) [].toArray [.pointer (some ⟨bl, 0, none⟩)].toArray) rfl rfl (by kernel_rfl) ((hS.blk 3 rfl hn).cell rfl)) ?_
    refine K.RW.l rfl (K.OW.gcallw hS [0, 1] [2, 3, 4, 5] [.pointer (some ⟨bl, 0, none⟩)] (next_ok _ bl (some ⟨b_1, of_2, none⟩) cap L _ hl _ hx (by first | omega | assumption) (by first | omega | (simp; done))) ?_)
    clear hS; rintro _ _ w ⟨a_4, cap_5, gl_6, hl_7, hc_8, hx_9, rfl, rfl⟩ hS
    replace hS : K.Sat w0 [gl_6, gr, gi, gn, gc, fr] w := hS
    replace hl_7 : gl_6 = [K.pt bl 68 [.slice a_4 ((L.drop 1).length) cap_5]] := hl_7
    replace hx_9 : ∀ w, K.Sat w0 [gr] w → K.RowE w a_4 ((L.drop 1).length) 1 (fun i => K.cStr ((L.drop 1).getD i [])) := hx_9
    refine K.RW.nil ?_
    refine K.thn_normal ?_
    refine K.KW.seq ?_
    -- 3 :118
    refine K.KW.region ?_
    refine K.RW.qs [.int .i64 (-1)] (by kernel_rfl) ?_
    refine K.RW.nil ?_
    refine K.thn_normal ?_
    refine K.KW.ret ?_
    refine K.thn_ret ?_
    refine ⟨.inr rfl, rfl, (.int .i64 (-1)), K.res1 rfl rfl, [gl_6, gr, gi, gn, gc], ?_, hS.pick [0, 1, 2, 3, 4, 5]⟩
    exact ⟨a_4, cap_5, gl_6, hl_7, hc_8, hx_9, gi, _, hi, when_n h_3, rfl, by unfold whenR; rw [if_pos h_3]⟩
  ·  -- no
    refine K.RW.q rfl rfl (K.QR.sEq (xs := L.getD 0 []) (ys := [45]) false rfl rfl rfl (K.deq_f h_3)) ?_
    refine K.RW.nil ?_
    refine K.thn_normal ?_
    refine K.KW.ifF rfl ?_
    refine K.KW.skip ?_
    refine K.thn_normal ?_
    refine K.KW.seq ?_
    -- 4 :120
    refine K.KW.region ?_
    refine K.RW.q rfl rfl (K.QR.ld1 (v := .func (.func 33) [].toArray [.pointer (some ⟨bn, 0, none⟩), .pointer (some ⟨bi, 0, none⟩)].toArray) rfl rfl (by kernel_rfl) ((hS.blk 4 rfl hcc).cell rfl)) ?_
    refine K.RW.l rfl (K.OW.gcallw hS [0, 1, 2, 3] [4, 5] [.int .i64 1099511627776, .pointer (some ⟨bn, 0, none⟩), .pointer (some ⟨bi, 0, none⟩)] (count_ok _ 1099511627776 (by omega) bl (some ⟨b_1, of_2, none⟩) cap L _ hl _ hx (by first | omega | assumption) (by first | omega | (simp; done)) (by first | assumption | omega) _ _ _ _ _ hi hn) ?_)
    clear hS; rintro _ _ w ⟨a_10, cap_11, gl_12, hl_13, hc_14, hx_15, gi_16, b_17, hi_18, hb_19, rfl, rfl⟩ hS
    replace hS : K.Sat w0 [gl_12, gr, gi_16, gn, gc, fr] w := hS
    replace hl_13 : gl_12 = [K.pt bl 68 [.slice a_10 ((L.drop 1).length) cap_11]] := hl_13
    replace hx_15 : ∀ w, K.Sat w0 [gr] w → K.RowE w a_10 ((L.drop 1).length) 1 (fun i => K.cStr ((L.drop 1).getD i [])) := hx_15
    refine K.RW.qs [.int .i64 (numR (L.getD 0 []) 1099511627776)] (by kernel_rfl) ?_
    refine K.RW.nil ?_
    refine K.thn_normal ?_
    refine K.KW.ret ?_
    refine ⟨.inr rfl, rfl, (.int .i64 (numR (L.getD 0 []) 1099511627776)), K.res1 rfl rfl, [gl_12, gr, gi_16, gn, gc], ?_, hS.pick [0, 1, 2, 3, 4, 5]⟩
    exact ⟨a_10, cap_11, gl_12, hl_13, hc_14, hx_15, gi_16, _, hi_18, when_b h_3 hb_19, rfl, by unfold whenR; rw [if_neg h_3]⟩
end Go.Proofs.YtnehocjmgnhhhaaDoor
