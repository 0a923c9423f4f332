import Derived.Test.YtnehocjmgnhhhaaFnx
/- Witness: the search: what may come next, and is it over? -/
namespace Go.Proofs.Ytnehocjmgnhhhaa
open Go.RowKit
set_option linter.unusedVariables false
attribute [local irreducible] K.KW K.RW K.DW K.OW K.QR K.KC
/-- may a call come next? -/
def mayS (L : List CallM) (U : List Bool) (i : Nat) : Prop := (∀ k, k < L.length → ¬ (U.getD k false = false ∧ aheadH (L.getD k call0) (L.getD i call0))) ∧ U.getD i false = false
/-- has every call that was not broken come? -/
def overS (L : List CallM) (U : List Bool) : Prop := ∀ k, k < L.length → ¬ (U.getD k false = false ∧ (L.getD k call0).cr = false)
set_option maxHeartbeats 4000000 in
set_option maxRecDepth 100000 in
theorem over_ok (w0 : World) (bx : Nat) (gb gu : K.Cs) (a bu : Option Addr) (cap cu : Nat) (L : List CallM) (U : List Bool) (hm : L.length ≤ 1000000) (hU : U.length = L.length) (hgb : gb = [K.pt bx 85 [.slice a L.length cap, .slice bu U.length cu]]) (hu : K.OwnG gu 4 1 bu U.length cu (U.flatMap cBool)) (gx : K.Cs) (hx : ∀ w, K.Sat w0 [gx] w → K.RowE w a L.length 11 (fun i => cCall (L.getD i call0))) :
    K.GC Try.prog w0 76 #[.pointer (some ⟨bx, 0, none⟩)] [gb, gu, gx] (fun v post => post = [gb, gu, gx] ∧ ((overS L U ∧ v = .bool true) ∨ (¬ (overS L U) ∧ v = .bool false))) := by
  refine K.GC.mk (n := 29) Try.func76 rfl rfl [.pointer (some ⟨bx, 0, none⟩)] rfl rfl ?_
  intro fr w hS
  replace hS : K.Sat w0 [gb, gu, gx, fr] w := hS
  refine K.KW.seq ?_
  -- 0 :95
  refine K.KW.region ?_
  refine K.RW.qs [.bool false] (by kernel_rfl) ?_
  refine K.RW.nil ?_
  refine K.thn_normal ?_
  refine K.KW.seq ?_
  refine K.KW.seq ?_
  -- 1 :96
  refine K.KW.region ?_
  refine K.RW.qs [.pointer (some ⟨bx, 0, none⟩), .pointer (some ⟨bx, 0, none⟩), .pointer (some ⟨bx, 0, none⟩)] (by kernel_rfl) ?_
  refine K.RW.q rfl rfl (K.QR.ld1 (v := .slice a L.length cap) rfl rfl (by kernel_rfl) ((hS.blk 0 rfl hgb).cell rfl)) ?_
  refine K.RW.q rfl rfl (K.QR.len (P := Try.prog) rfl rfl Try.underlying22) ?_
  refine K.RW.qs [.int .i64 0] (by kernel_rfl) ?_
  refine K.RW.nil ?_
  refine K.thn_normal ?_
  refine K.KW.block ?_
  refine K.KW.loop (fun m_ F_ w_ => ∃ (k : Nat), m_ = L.length - k ∧ K.Sl F_ [(0, .pointer (some ⟨bx, 0, none⟩)), (8, .slice a L.length cap), (9, .int .i64 ((L.length : Nat) : Int)), (10, .int .i64 ((k : Nat) : Int)), (29, undef)] ∧ k ≤ L.length ∧ (∀ q, q < k → ¬ (U.getD q false = false ∧ (L.getD q call0).cr = false)) ∧ K.Sat w0 [gb, gu, gx, fr] w_) ((fun (k : Nat) => L.length - k) 0) ?_ ?_
  · -- begins
    exact ⟨0, rfl, ⟨by rfl, by rfl, by rfl, by rfl, by rfl, trivial⟩, (by omega), (fun q hq => by omega), hS.pick [0, 1, 2, 3]⟩
  · -- a round
    clear hS
    intro m_1 F_2 w hI
    obtain ⟨k, rfl, sl_3, p_4, hov, hS⟩ := hI
    rw [← K.Sl.puts sl_3]; clear sl_3
    refine K.KW.seq ?_
    -- 2 :96
    refine K.KW.region ?_
    by_cases h_5 : (((k : Nat) : Int) : Int) < (((L.length : Nat) : Int) : Int)
    ·  -- yes
      refine K.RW.q rfl rfl (K.QR.nice (v := .bool (decide ((((k : Nat) : Int) : Int) < (((L.length : Nat) : Int) : Int)))) (by kernel_rfl) (congrArg Value.bool (decide_eq_true h_5))) ?_
      refine K.RW.nil ?_
      refine K.thn_normal ?_
      refine K.KW.seq ?_
      refine K.KW.ifT rfl ?_
      refine K.KW.skip ?_
      refine K.thn_normal ?_
      refine K.KW.seq ?_
      refine K.KW.block ?_
      refine K.KW.seq ?_
      -- 3 :96
      obtain ⟨b_6, of_7, rfl, _⟩ := (hx _ (hS.pick [2])).at_ (by omega)
      obtain ⟨b_8, rfl⟩ := hu.some_ (by have := hu.le; omega)
      refine K.KW.region ?_
      refine K.RW.qs [.int .i64 ((k : Nat) : Int)] (by kernel_rfl) ?_
      refine K.RW.q rfl rfl (K.QR.ix (of_7 + k * 11) 11 rfl rfl rfl Try.underlying22 (by kernel_rfl) (by omega) (by first | (simp; done) | omega | (simp; omega))) ?_
      refine K.RW.q rfl rfl (K.QR.ldN [.int .i64 ((L.getD k call0).th), .int .i64 ((L.getD k call0).ok), .int .u32 ((L.getD k call0).key), .int .u32 ((L.getD k call0).val), .int .i64 ((L.getD k call0).rk), .int .u32 ((L.getD k call0).rv), .int .i64 ((L.getD k call0).beg), .int .i64 ((L.getD k call0).en), .int .i64 ((L.getD k call0).wh), .bool ((L.getD k call0).cr), .bool ((L.getD k call0).kp)] rfl rfl (by kernel_rfl) (by kernel_rfl) (K.cells (K.cl ((hx _ (hS.pick [2])).ld k (by omega) 0 _ rfl) (K.cl ((hx _ (hS.pick [2])).ld k (by omega) 1 _ rfl) (K.cl ((hx _ (hS.pick [2])).ld k (by omega) 2 _ rfl) (K.cl ((hx _ (hS.pick [2])).ld k (by omega) 3 _ rfl) (K.cl ((hx _ (hS.pick [2])).ld k (by omega) 4 _ rfl) (K.cl ((hx _ (hS.pick [2])).ld k (by omega) 5 _ rfl) (K.cl ((hx _ (hS.pick [2])).ld k (by omega) 6 _ rfl) (K.cl ((hx _ (hS.pick [2])).ld k (by omega) 7 _ rfl) (K.cl ((hx _ (hS.pick [2])).ld k (by omega) 8 _ rfl) (K.cl ((hx _ (hS.pick [2])).ld k (by omega) 9 _ rfl) (K.cl ((hx _ (hS.pick [2])).ld k (by omega) 10 _ rfl) K.cl0))))))))))))) ?_
      refine K.RW.l rfl (K.OW.gnew 51 [.int .i64 0, .int .i64 0, .int .u32 0, .int .u32 0, .int .i64 0, .int .u32 0, .int .i64 0, .int .i64 0, .int .i64 0, .bool false, .bool false] hS ?_)
      clear hS; intro w r_10 g_11 hg_12 hS
      refine K.RW.qs [.int .i64 ((k : Nat) : Int)] (by kernel_rfl) ?_
      refine K.RW.l rfl (K.OW.gst 0 [.int .i64 ((L.getD k call0).th), .int .i64 ((L.getD k call0).ok), .int .u32 ((L.getD k call0).key), .int .u32 ((L.getD k call0).val), .int .i64 ((L.getD k call0).rk), .int .u32 ((L.getD k call0).rv), .int .i64 ((L.getD k call0).beg), .int .i64 ((L.getD k call0).en), .int .i64 ((L.getD k call0).wh), .bool ((L.getD k call0).cr), .bool ((L.getD k call0).kp)] [.int .i64 ((L.getD k call0).th), .int .i64 ((L.getD k call0).ok), .int .u32 ((L.getD k call0).key), .int .u32 ((L.getD k call0).val), .int .i64 ((L.getD k call0).rk), .int .u32 ((L.getD k call0).rv), .int .i64 ((L.getD k call0).beg), .int .i64 ((L.getD k call0).en), .int .i64 ((L.getD k call0).wh), .bool ((L.getD k call0).cr), .bool ((L.getD k call0).kp)] hS hg_12 ?_)
      clear hS; intro w g_13 hg_14 hS
      replace hS : K.Sat w0 [g_13, gb, gu, gx, fr] w := hS
      refine K.RW.nil ?_
      refine K.thn_normal ?_
      refine K.KW.seq ?_
      -- 4 :97
      refine K.KW.region ?_
      refine K.RW.qs [.pointer (some ⟨bx, 0, none⟩), .pointer (some ⟨bx, 0, none⟩), .pointer (some ⟨bx, 1, none⟩)] (by kernel_rfl) ?_
      refine K.RW.q rfl rfl (K.QR.ld1 (v := .slice (some ⟨b_8, 0, none⟩) U.length cu) rfl rfl (by kernel_rfl) ((hS.blk 1 rfl hgb).cell rfl)) ?_
      refine K.RW.qs [.int .i64 ((k : Nat) : Int)] (by kernel_rfl) ?_
      refine K.RW.q rfl rfl (K.QR.ix k 1 rfl rfl rfl Try.underlying54 (by kernel_rfl) (by omega) (by first | (simp; done) | omega | (simp; omega))) ?_
      refine K.RW.q rfl rfl (K.QR.ld1 (v := .bool (U.getD k false)) rfl rfl (by kernel_rfl) (K.Own.atS (c := cBool) (d := false) (fun _ => rfl) (hS.ownr 2 rfl hu) rfl k (by omega))) ?_
      cases hb_15 : U.getD k false
      ·
        refine K.RW.qs [.bool true, .bool true, .pointer (some ⟨r_10, 9, none⟩)] (by kernel_rfl) ?_
        refine K.RW.q rfl (by kernel_rfl) (K.QR.ld1 (v := .bool ((L.getD k call0).cr)) rfl rfl (by kernel_rfl) ((hS.blk 0 rfl hg_14).cell rfl)) ?_
        cases hb_16 : (L.getD k call0).cr
        ·
          refine K.RW.qs [.bool true, .bool true] (by kernel_rfl) ?_
          refine K.RW.nil ?_
          refine K.thn_normal ?_
          refine K.KW.ifT rfl ?_
          refine K.KW.seq ?_
          -- 5 :98
          refine K.KW.region ?_
          refine K.RW.qs [.bool false] (by kernel_rfl) ?_
          refine K.RW.nil ?_
          refine K.thn_normal ?_
          refine K.KW.ret ?_
          refine K.blk_ret ?_
          refine K.thn_ret ?_
          refine K.thn_ret ?_
          refine K.blk_ret ?_
          refine K.thn_ret ?_
          refine ⟨.inr rfl, rfl, (.bool false), K.res1 rfl rfl, [gb, gu, gx], ?_, hS.pick [1, 2, 3, 4]⟩
          exact ⟨rfl, .inr ⟨fun hh => hh k (by omega) ⟨by assumption, by assumption⟩, rfl⟩⟩
        ·
          refine K.RW.qs [.bool false, .bool false] (by kernel_rfl) ?_
          refine K.RW.nil ?_
          refine K.thn_normal ?_
          refine K.KW.ifF rfl ?_
          refine K.KW.skip ?_
          refine K.blk_normal ?_
          refine K.thn_normal ?_
          -- 6 :96
          refine K.KW.region ?_
          refine K.RW.q rfl rfl (K.QR.n64 ((((k : Nat) : Int) : Int) + (1 : Int)) ((k + 1 : Nat) : Int) (by kernel_rfl) (by omega)) ?_
          refine K.RW.qs [.int .i64 ((k + 1 : Nat) : Int)] (by kernel_rfl) ?_
          refine K.RW.nil ?_
          refine K.thn_normal ?_
          refine ⟨_, ?_, k + 1, rfl, ⟨by rfl, by rfl, by rfl, by rfl, by rfl, trivial⟩, (by omega), (K.all_snoc hov (by simp_all)), hS.pick [1, 2, 3, 4]⟩
          omega
      ·
        refine K.RW.qs [.bool false, .bool false] (by kernel_rfl) ?_
        refine K.RW.skip rfl (by kernel_rfl) ?_
        refine K.RW.skip rfl (by kernel_rfl) ?_
        refine K.RW.skip rfl (by kernel_rfl) ?_
        refine K.RW.qs [.bool false] (by kernel_rfl) ?_
        refine K.RW.nil ?_
        refine K.thn_normal ?_
        refine K.KW.ifF rfl ?_
        refine K.KW.skip ?_
        refine K.blk_normal ?_
        refine K.thn_normal ?_
        -- 6 :96
        refine K.KW.region ?_
        refine K.RW.q rfl rfl (K.QR.n64 ((((k : Nat) : Int) : Int) + (1 : Int)) ((k + 1 : Nat) : Int) (by kernel_rfl) (by omega)) ?_
        refine K.RW.qs [.int .i64 ((k + 1 : Nat) : Int)] (by kernel_rfl) ?_
        refine K.RW.nil ?_
        refine K.thn_normal ?_
        refine ⟨_, ?_, k + 1, rfl, ⟨by rfl, by rfl, by rfl, by rfl, by rfl, trivial⟩, (by omega), (K.all_snoc hov (by simp_all)), hS.pick [1, 2, 3, 4]⟩
        omega
    ·  -- no
      refine K.RW.q rfl rfl (K.QR.nice (v := .bool (decide ((((k : Nat) : Int) : Int) < (((L.length : Nat) : Int) : Int)))) (by kernel_rfl) (congrArg Value.bool (decide_eq_false h_5))) ?_
      refine K.RW.nil ?_
      refine K.thn_normal ?_
      refine K.KW.seq ?_
      refine K.KW.ifF rfl ?_
      refine K.KW.exit ?_
      refine K.thn_exit ?_
      refine K.thn_exit ?_
      refine K.blk_hit ?_
      refine K.thn_normal ?_
      refine K.KW.seq ?_
      -- 7 :101
      refine K.KW.region ?_
      refine K.RW.qs [.bool true] (by kernel_rfl) ?_
      refine K.RW.nil ?_
      refine K.thn_normal ?_
      refine K.KW.ret ?_
      refine ⟨.inr rfl, rfl, (.bool true), K.res1 rfl rfl, [gb, gu, gx], ?_, hS.pick [0, 1, 2, 3]⟩
      exact ⟨rfl, .inl ⟨fun q hq => hov q (by omega), rfl⟩⟩
set_option maxHeartbeats 4000000 in
set_option maxRecDepth 100000 in
theorem smay_ok (w0 : World) (bx : Nat) (gb gu : K.Cs) (a bu : Option Addr) (cap cu : Nat) (L : List CallM) (U : List Bool) (hm : L.length ≤ 1000000) (hU : U.length = L.length) (hgb : gb = [K.pt bx 85 [.slice a L.length cap, .slice bu U.length cu]]) (hu : K.OwnG gu 4 1 bu U.length cu (U.flatMap cBool)) (gx : K.Cs) (hx : ∀ w, K.Sat w0 [gx] w → K.RowE w a L.length 11 (fun i => cCall (L.getD i call0))) (i : Nat) (hi : i < L.length) :
    K.GC Try.prog w0 75 #[.pointer (some ⟨bx, 0, none⟩), .int .i64 ((i : Nat) : Int)] [gb, gu, gx] (fun v post => post = [gb, gu, gx] ∧ ((mayS L U i ∧ v = .bool true) ∨ (¬ (mayS L U i) ∧ v = .bool false))) := by
  refine K.GC.mk (n := 45) Try.func75 rfl rfl [.pointer (some ⟨bx, 0, none⟩), .int .i64 ((i : Nat) : Int)] rfl rfl ?_
  intro fr w hS
  replace hS : K.Sat w0 [gb, gu, gx, fr] w := hS
  refine K.KW.seq ?_
  -- 0 :85
  refine K.KW.region ?_
  refine K.RW.qs [.bool false] (by kernel_rfl) ?_
  refine K.RW.nil ?_
  refine K.thn_normal ?_
  refine K.KW.seq ?_
  refine K.KW.seq ?_
  -- 1 :86
  refine K.KW.region ?_
  refine K.RW.qs [.pointer (some ⟨bx, 0, none⟩), .pointer (some ⟨bx, 0, none⟩), .pointer (some ⟨bx, 0, none⟩)] (by kernel_rfl) ?_
  refine K.RW.q rfl rfl (K.QR.ld1 (v := .slice a L.length cap) rfl rfl (by kernel_rfl) ((hS.blk 0 rfl hgb).cell rfl)) ?_
  refine K.RW.q rfl rfl (K.QR.len (P := Try.prog) rfl rfl Try.underlying22) ?_
  refine K.RW.qs [.int .i64 0] (by kernel_rfl) ?_
  refine K.RW.nil ?_
  refine K.thn_normal ?_
  refine K.KW.block ?_
  refine K.KW.loop (fun m_ F_ w_ => ∃ (k : Nat), m_ = L.length - k ∧ K.Sl F_ [(0, .pointer (some ⟨bx, 0, none⟩)), (1, .int .i64 ((i : Nat) : Int)), (10, .slice a L.length cap), (11, .int .i64 ((L.length : Nat) : Int)), (12, .int .i64 ((k : Nat) : Int)), (45, undef)] ∧ k ≤ L.length ∧ (∀ q, q < k → ¬ (U.getD q false = false ∧ aheadH (L.getD q call0) (L.getD i call0))) ∧ K.Sat w0 [gb, gu, gx, fr] w_) ((fun (k : Nat) => L.length - k) 0) ?_ ?_
  · -- begins
    exact ⟨0, rfl, ⟨by rfl, by rfl, by rfl, by rfl, by rfl, by rfl, trivial⟩, (by omega), (fun q hq => by omega), hS.pick [0, 1, 2, 3]⟩
  · -- a round
    clear hS
    intro m_1 F_2 w hI
    obtain ⟨k, rfl, sl_3, p_4, hov, hS⟩ := hI
    rw [← K.Sl.puts sl_3]; clear sl_3
    refine K.KW.seq ?_
    -- 2 :86
    obtain ⟨b_5, of_6, rfl, _⟩ := (hx _ (hS.pick [2])).at_ (by omega)
    obtain ⟨b_7, rfl⟩ := hu.some_ (by have := hu.le; omega)
    refine K.KW.region ?_
    by_cases h_9 : (((k : Nat) : Int) : Int) < (((L.length : Nat) : Int) : Int)
    ·  -- yes
      refine K.RW.q rfl rfl (K.QR.nice (v := .bool (decide ((((k : Nat) : Int) : Int) < (((L.length : Nat) : Int) : Int)))) (by kernel_rfl) (congrArg Value.bool (decide_eq_true h_9))) ?_
      refine K.RW.nil ?_
      refine K.thn_normal ?_
      refine K.KW.seq ?_
      refine K.KW.ifT rfl ?_
      refine K.KW.skip ?_
      refine K.thn_normal ?_
      refine K.KW.seq ?_
      refine K.KW.block ?_
      refine K.KW.seq ?_
      -- 3 :86
      refine K.KW.region ?_
      refine K.RW.qs [.int .i64 ((k : Nat) : Int)] (by kernel_rfl) ?_
      refine K.RW.q rfl rfl (K.QR.ix (of_6 + k * 11) 11 rfl rfl rfl Try.underlying22 (by kernel_rfl) (by omega) (by first | (simp; done) | omega | (simp; omega))) ?_
      refine K.RW.q rfl rfl (K.QR.ldN [.int .i64 ((L.getD k call0).th), .int .i64 ((L.getD k call0).ok), .int .u32 ((L.getD k call0).key), .int .u32 ((L.getD k call0).val), .int .i64 ((L.getD k call0).rk), .int .u32 ((L.getD k call0).rv), .int .i64 ((L.getD k call0).beg), .int .i64 ((L.getD k call0).en), .int .i64 ((L.getD k call0).wh), .bool ((L.getD k call0).cr), .bool ((L.getD k call0).kp)] rfl rfl (by kernel_rfl) (by kernel_rfl) (K.cells (K.cl ((hx _ (hS.pick [2])).ld k (by omega) 0 _ rfl) (K.cl ((hx _ (hS.pick [2])).ld k (by omega) 1 _ rfl) (K.cl ((hx _ (hS.pick [2])).ld k (by omega) 2 _ rfl) (K.cl ((hx _ (hS.pick [2])).ld k (by omega) 3 _ rfl) (K.cl ((hx _ (hS.pick [2])).ld k (by omega) 4 _ rfl) (K.cl ((hx _ (hS.pick [2])).ld k (by omega) 5 _ rfl) (K.cl ((hx _ (hS.pick [2])).ld k (by omega) 6 _ rfl) (K.cl ((hx _ (hS.pick [2])).ld k (by omega) 7 _ rfl) (K.cl ((hx _ (hS.pick [2])).ld k (by omega) 8 _ rfl) (K.cl ((hx _ (hS.pick [2])).ld k (by omega) 9 _ rfl) (K.cl ((hx _ (hS.pick [2])).ld k (by omega) 10 _ rfl) K.cl0))))))))))))) ?_
      refine K.RW.l rfl (K.OW.gnew 51 [.int .i64 0, .int .i64 0, .int .u32 0, .int .u32 0, .int .i64 0, .int .u32 0, .int .i64 0, .int .i64 0, .int .i64 0, .bool false, .bool false] hS ?_)
      clear hS; intro w r_10 g_11 hg_12 hS
      refine K.RW.qs [.int .i64 ((k : Nat) : Int)] (by kernel_rfl) ?_
      refine K.RW.l rfl (K.OW.gst 0 [.int .i64 ((L.getD k call0).th), .int .i64 ((L.getD k call0).ok), .int .u32 ((L.getD k call0).key), .int .u32 ((L.getD k call0).val), .int .i64 ((L.getD k call0).rk), .int .u32 ((L.getD k call0).rv), .int .i64 ((L.getD k call0).beg), .int .i64 ((L.getD k call0).en), .int .i64 ((L.getD k call0).wh), .bool ((L.getD k call0).cr), .bool ((L.getD k call0).kp)] [.int .i64 ((L.getD k call0).th), .int .i64 ((L.getD k call0).ok), .int .u32 ((L.getD k call0).key), .int .u32 ((L.getD k call0).val), .int .i64 ((L.getD k call0).rk), .int .u32 ((L.getD k call0).rv), .int .i64 ((L.getD k call0).beg), .int .i64 ((L.getD k call0).en), .int .i64 ((L.getD k call0).wh), .bool ((L.getD k call0).cr), .bool ((L.getD k call0).kp)] hS hg_12 ?_)
      clear hS; intro w g_13 hg_14 hS
      replace hS : K.Sat w0 [g_13, gb, gu, gx, fr] w := hS
      refine K.RW.nil ?_
      refine K.thn_normal ?_
      refine K.KW.seq ?_
      -- 4 :87
      refine K.KW.gdrawn [0, 1] hS (by kernel_rfl) ?_
      clear hS; intro w hS
      refine K.DW.q 0 (by kernel_rfl) rfl rfl (by kernel_rfl) rfl (fun w hS => K.QR.k (v := .pointer (some ⟨bx, 0, none⟩)) (by kernel_rfl)) (hS.pick [0, 1]) ?_
      refine K.DW.q 1 (by kernel_rfl) rfl rfl (by kernel_rfl) rfl (fun w hS => K.QR.k (v := .pointer (some ⟨bx, 0, none⟩)) (by kernel_rfl)) (hS.pick [0, 1]) ?_
      refine K.DW.q 2 (by kernel_rfl) rfl rfl (by kernel_rfl) rfl (fun w hS => K.QR.k (v := .pointer (some ⟨bx, 1, none⟩)) (by kernel_rfl)) (hS.pick [0, 1]) ?_
      refine K.DW.q 3 (by kernel_rfl) rfl rfl (by kernel_rfl) rfl (fun w hS => K.QR.ld1 (v := .slice (some ⟨b_7, 0, none⟩) U.length cu) rfl rfl (by kernel_rfl) ((hS.blk 1 rfl hgb).cell rfl)) (hS.pick [0, 1]) ?_
      refine K.DW.l 4 rfl (by kernel_rfl) rfl (K.OW.q rfl (K.QR.k (v := .int .i64 ((k : Nat) : Int)) (by kernel_rfl)) ?_)
      refine ⟨.inl (hS.pick [0, 1]), ?_⟩
      refine K.DW.l 5 rfl (by kernel_rfl) rfl (K.OW.q rfl (K.QR.ix k 1 rfl rfl rfl Try.underlying54 (by kernel_rfl) (by omega) (by first | (simp; done) | omega | (simp; omega))) ?_)
      refine ⟨.inl (hS.pick [0, 1]), ?_⟩
      refine K.DW.l 6 rfl (by kernel_rfl) rfl (K.OW.q rfl (K.QR.ld1 (v := .bool (U.getD k false)) rfl rfl (by kernel_rfl) (K.Own.atS (c := cBool) (d := false) (fun _ => rfl) (hS.ownr 2 rfl hu) rfl k (by omega))) ?_)
      refine ⟨.inl (hS.pick [0, 1]), ?_⟩
      cases hb_15 : U.getD k false
      ·
        refine K.DW.l 7 rfl (by kernel_rfl) rfl (K.OW.q rfl (K.QR.k (v := .bool true) (by kernel_rfl)) ?_)
        refine ⟨.inl (hS.pick [0, 1]), ?_⟩
        refine K.DW.l 8 rfl (by kernel_rfl) rfl (K.OW.q rfl (K.QR.k (v := .bool true) (by kernel_rfl)) ?_)
        refine ⟨.inl (hS.pick [0, 1]), ?_⟩
        refine K.DW.q 9 (by kernel_rfl) rfl rfl (by kernel_rfl) (by kernel_rfl) (fun w hS => K.QR.ldN [.int .i64 ((L.getD k call0).th), .int .i64 ((L.getD k call0).ok), .int .u32 ((L.getD k call0).key), .int .u32 ((L.getD k call0).val), .int .i64 ((L.getD k call0).rk), .int .u32 ((L.getD k call0).rv), .int .i64 ((L.getD k call0).beg), .int .i64 ((L.getD k call0).en), .int .i64 ((L.getD k call0).wh), .bool ((L.getD k call0).cr), .bool ((L.getD k call0).kp)] rfl rfl (by kernel_rfl) (by kernel_rfl) (K.cells (K.cl ((hS.blk 0 rfl hg_14).cell rfl) (K.cl ((hS.blk 0 rfl hg_14).cell rfl) (K.cl ((hS.blk 0 rfl hg_14).cell rfl) (K.cl ((hS.blk 0 rfl hg_14).cell rfl) (K.cl ((hS.blk 0 rfl hg_14).cell rfl) (K.cl ((hS.blk 0 rfl hg_14).cell rfl) (K.cl ((hS.blk 0 rfl hg_14).cell rfl) (K.cl ((hS.blk 0 rfl hg_14).cell rfl) (K.cl ((hS.blk 0 rfl hg_14).cell rfl) (K.cl ((hS.blk 0 rfl hg_14).cell rfl) (K.cl ((hS.blk 0 rfl hg_14).cell rfl) K.cl0))))))))))))) (hS.pick [0, 1]) ?_
        refine K.DW.q 10 (by kernel_rfl) rfl rfl (by kernel_rfl) (by kernel_rfl) (fun w hS => K.QR.k (v := .pointer (some ⟨bx, 0, none⟩)) (by kernel_rfl)) (hS.pick [0, 1]) ?_
        refine K.DW.q 11 (by kernel_rfl) rfl rfl (by kernel_rfl) (by kernel_rfl) (fun w hS => K.QR.k (v := .pointer (some ⟨bx, 0, none⟩)) (by kernel_rfl)) (hS.pick [0, 1]) ?_
        refine K.DW.q 12 (by kernel_rfl) rfl rfl (by kernel_rfl) (by kernel_rfl) (fun w hS => K.QR.k (v := .pointer (some ⟨bx, 0, none⟩)) (by kernel_rfl)) (hS.pick [0, 1]) ?_
        refine K.DW.q 13 (by kernel_rfl) rfl rfl (by kernel_rfl) (by kernel_rfl) (fun w hS => K.QR.ld1 (v := .slice (some ⟨b_5, of_6, none⟩) L.length cap) rfl rfl (by kernel_rfl) ((hS.blk 1 rfl hgb).cell rfl)) (hS.pick [0, 1]) ?_
        refine K.DW.l 14 rfl (by kernel_rfl) (by kernel_rfl) (K.OW.q rfl (K.QR.k (v := .int .i64 ((i : Nat) : Int)) (by kernel_rfl)) ?_)
        refine ⟨.inl (hS.pick [0, 1]), ?_⟩
        refine K.DW.l 15 rfl (by kernel_rfl) (by kernel_rfl) (K.OW.q rfl (K.QR.ix (of_6 + i * 11) 11 rfl rfl rfl Try.underlying22 (by kernel_rfl) (by omega) (by first | (simp; done) | omega | (simp; omega))) ?_)
        refine ⟨.inl (hS.pick [0, 1]), ?_⟩
        refine K.DW.l 16 rfl (by kernel_rfl) (by kernel_rfl) (K.OW.q rfl (K.QR.ldN [.int .i64 ((L.getD i call0).th), .int .i64 ((L.getD i call0).ok), .int .u32 ((L.getD i call0).key), .int .u32 ((L.getD i call0).val), .int .i64 ((L.getD i call0).rk), .int .u32 ((L.getD i call0).rv), .int .i64 ((L.getD i call0).beg), .int .i64 ((L.getD i call0).en), .int .i64 ((L.getD i call0).wh), .bool ((L.getD i call0).cr), .bool ((L.getD i call0).kp)] rfl rfl (by kernel_rfl) (by kernel_rfl) (K.cells (K.cl ((hx _ (hS.pick [3])).ld i (by omega) 0 _ rfl) (K.cl ((hx _ (hS.pick [3])).ld i (by omega) 1 _ rfl) (K.cl ((hx _ (hS.pick [3])).ld i (by omega) 2 _ rfl) (K.cl ((hx _ (hS.pick [3])).ld i (by omega) 3 _ rfl) (K.cl ((hx _ (hS.pick [3])).ld i (by omega) 4 _ rfl) (K.cl ((hx _ (hS.pick [3])).ld i (by omega) 5 _ rfl) (K.cl ((hx _ (hS.pick [3])).ld i (by omega) 6 _ rfl) (K.cl ((hx _ (hS.pick [3])).ld i (by omega) 7 _ rfl) (K.cl ((hx _ (hS.pick [3])).ld i (by omega) 8 _ rfl) (K.cl ((hx _ (hS.pick [3])).ld i (by omega) 9 _ rfl) (K.cl ((hx _ (hS.pick [3])).ld i (by omega) 10 _ rfl) K.cl0))))))))))))) ?_)
        refine ⟨.inl (hS.pick [0, 1]), ?_⟩
        refine K.DW.l 17 rfl (by kernel_rfl) (by kernel_rfl) (K.OW.gcall hS [] [0, 1, 2, 3, 4] [.agg #[.int .i64 ((L.getD k call0).th), .int .i64 ((L.getD k call0).ok), .int .u32 ((L.getD k call0).key), .int .u32 ((L.getD k call0).val), .int .i64 ((L.getD k call0).rk), .int .u32 ((L.getD k call0).rv), .int .i64 ((L.getD k call0).beg), .int .i64 ((L.getD k call0).en), .int .i64 ((L.getD k call0).wh), .bool ((L.getD k call0).cr), .bool ((L.getD k call0).kp)], .agg #[.int .i64 ((L.getD i call0).th), .int .i64 ((L.getD i call0).ok), .int .u32 ((L.getD i call0).key), .int .u32 ((L.getD i call0).val), .int .i64 ((L.getD i call0).rk), .int .u32 ((L.getD i call0).rv), .int .i64 ((L.getD i call0).beg), .int .i64 ((L.getD i call0).en), .int .i64 ((L.getD i call0).wh), .bool ((L.getD i call0).cr), .bool ((L.getD i call0).kp)]] (ahead_ok _ (L.getD k call0) (L.getD i call0)) ?_)
        clear hS; rintro _ _ w ⟨rfl, (⟨h_16, rfl⟩ | ⟨h_17, rfl⟩)⟩ hS
        ·
          replace hS : K.Sat w0 [g_13, gb, gu, gx, fr] w := hS
          refine ⟨.inl (hS.pick [0, 1]), ?_⟩
          refine K.DW.l 18 rfl (by kernel_rfl) rfl (K.OW.q rfl (K.QR.k (v := .bool true) (by kernel_rfl)) ?_)
          refine ⟨.inl (hS.pick [0, 1]), ?_⟩
          refine K.DW.done (by kernel_rfl) ?_
          refine K.thn_normal ?_
          refine K.KW.ifT rfl ?_
          refine K.KW.seq ?_
          -- 5 :88
          refine K.KW.region ?_
          refine K.RW.qs [.bool false] (by kernel_rfl) ?_
          refine K.RW.nil ?_
          refine K.thn_normal ?_
          refine K.KW.ret ?_
          refine K.blk_ret ?_
          refine K.thn_ret ?_
          refine K.thn_ret ?_
          refine K.blk_ret ?_
          refine K.thn_ret ?_
          refine ⟨.inr rfl, rfl, (.bool false), K.res1 rfl rfl, [gb, gu, gx], ?_, hS.pick [1, 2, 3, 4]⟩
          exact ⟨rfl, .inr ⟨fun hh => hh.1 k (by omega) ⟨by assumption, h_16⟩, rfl⟩⟩
        ·
          replace hS : K.Sat w0 [g_13, gb, gu, gx, fr] w := hS
          refine ⟨.inl (hS.pick [0, 1]), ?_⟩
          refine K.DW.l 18 rfl (by kernel_rfl) rfl (K.OW.q rfl (K.QR.k (v := .bool false) (by kernel_rfl)) ?_)
          refine ⟨.inl (hS.pick [0, 1]), ?_⟩
          refine K.DW.done (by kernel_rfl) ?_
          refine K.thn_normal ?_
          refine K.KW.ifF rfl ?_
          refine K.KW.skip ?_
          refine K.blk_normal ?_
          refine K.thn_normal ?_
          -- 6 :86
          refine K.KW.region ?_
          refine K.RW.q rfl rfl (K.QR.n64 ((((k : Nat) : Int) : Int) + (1 : Int)) ((k + 1 : Nat) : Int) (by kernel_rfl) (by omega)) ?_
          refine K.RW.qs [.int .i64 ((k + 1 : Nat) : Int)] (by kernel_rfl) ?_
          refine K.RW.nil ?_
          refine K.thn_normal ?_
          refine ⟨_, ?_, k + 1, rfl, ⟨by rfl, by rfl, by rfl, by rfl, by rfl, by rfl, trivial⟩, (by omega), (K.all_snoc hov (fun hh => absurd hh.2 h_17)), hS.pick [1, 2, 3, 4]⟩
          omega
      ·
        refine K.DW.l 7 rfl (by kernel_rfl) rfl (K.OW.q rfl (K.QR.k (v := .bool false) (by kernel_rfl)) ?_)
        refine ⟨.inl (hS.pick [0, 1]), ?_⟩
        refine K.DW.l 8 rfl (by kernel_rfl) rfl (K.OW.q rfl (K.QR.k (v := .bool false) (by kernel_rfl)) ?_)
        refine ⟨.inl (hS.pick [0, 1]), ?_⟩
        refine K.DW.skip 9 (by kernel_rfl) rfl rfl (by kernel_rfl) (by kernel_rfl) (hS.pick [0, 1]) ?_
        refine K.DW.skip 10 (by kernel_rfl) rfl rfl (by kernel_rfl) (by kernel_rfl) (hS.pick [0, 1]) ?_
        refine K.DW.skip 11 (by kernel_rfl) rfl rfl (by kernel_rfl) (by kernel_rfl) (hS.pick [0, 1]) ?_
        refine K.DW.skip 12 (by kernel_rfl) rfl rfl (by kernel_rfl) (by kernel_rfl) (hS.pick [0, 1]) ?_
        refine K.DW.skip 13 (by kernel_rfl) rfl rfl (by kernel_rfl) (by kernel_rfl) (hS.pick [0, 1]) ?_
        refine K.DW.skip 14 (by kernel_rfl) rfl rfl (by kernel_rfl) (by kernel_rfl) (hS.pick [0, 1]) ?_
        refine K.DW.skip 15 (by kernel_rfl) rfl rfl (by kernel_rfl) (by kernel_rfl) (hS.pick [0, 1]) ?_
        refine K.DW.skip 16 (by kernel_rfl) rfl rfl (by kernel_rfl) (by kernel_rfl) (hS.pick [0, 1]) ?_
        refine K.DW.skip 17 (by kernel_rfl) rfl rfl (by kernel_rfl) (by kernel_rfl) (hS.pick [0, 1]) ?_
        refine K.DW.l 18 rfl (by kernel_rfl) rfl (K.OW.q rfl (K.QR.k (v := .bool false) (by kernel_rfl)) ?_)
        refine ⟨.inl (hS.pick [0, 1]), ?_⟩
        refine K.DW.done (by kernel_rfl) ?_
        refine K.thn_normal ?_
        refine K.KW.ifF rfl ?_
        refine K.KW.skip ?_
        refine K.blk_normal ?_
        refine K.thn_normal ?_
        -- 6 :86
        refine K.KW.region ?_
        refine K.RW.q rfl rfl (K.QR.n64 ((((k : Nat) : Int) : Int) + (1 : Int)) ((k + 1 : Nat) : Int) (by kernel_rfl) (by omega)) ?_
        refine K.RW.qs [.int .i64 ((k + 1 : Nat) : Int)] (by kernel_rfl) ?_
        refine K.RW.nil ?_
        refine K.thn_normal ?_
        refine ⟨_, ?_, k + 1, rfl, ⟨by rfl, by rfl, by rfl, by rfl, by rfl, by rfl, trivial⟩, (by omega), (K.all_snoc hov (by simp_all)), hS.pick [1, 2, 3, 4]⟩
        omega
    ·  -- no
      refine K.RW.q rfl rfl (K.QR.nice (v := .bool (decide ((((k : Nat) : Int) : Int) < (((L.length : Nat) : Int) : Int)))) (by kernel_rfl) (congrArg Value.bool (decide_eq_false h_9))) ?_
      refine K.RW.nil ?_
      refine K.thn_normal ?_
      refine K.KW.seq ?_
      refine K.KW.ifF rfl ?_
      refine K.KW.exit ?_
      refine K.thn_exit ?_
      refine K.thn_exit ?_
      refine K.blk_hit ?_
      refine K.thn_normal ?_
      refine K.KW.seq ?_
      -- 7 :91
      refine K.KW.region ?_
      refine K.RW.qs [.pointer (some ⟨bx, 0, none⟩), .pointer (some ⟨bx, 0, none⟩), .pointer (some ⟨bx, 1, none⟩)] (by kernel_rfl) ?_
      refine K.RW.q rfl rfl (K.QR.ld1 (v := .slice (some ⟨b_7, 0, none⟩) U.length cu) rfl rfl (by kernel_rfl) ((hS.blk 0 rfl hgb).cell rfl)) ?_
      refine K.RW.qs [.int .i64 ((i : Nat) : Int)] (by kernel_rfl) ?_
      refine K.RW.q rfl rfl (K.QR.ix i 1 rfl rfl rfl Try.underlying54 (by kernel_rfl) (by omega) (by first | (simp; done) | omega | (simp; omega))) ?_
      refine K.RW.q rfl rfl (K.QR.ld1 (v := .bool (U.getD i false)) rfl rfl (by kernel_rfl) (K.Own.atS (c := cBool) (d := false) (fun _ => rfl) (hS.ownr 1 rfl hu) rfl i (by omega))) ?_
      cases hb_18 : U.getD i false
      ·
        refine K.RW.qs [.bool true, .bool true] (by kernel_rfl) ?_
        refine K.RW.nil ?_
        refine K.thn_normal ?_
        refine K.KW.ret ?_
        refine ⟨.inr rfl, rfl, (.bool true), K.res1 rfl rfl, [gb, gu, gx], ?_, hS.pick [0, 1, 2, 3]⟩
        exact ⟨rfl, .inl ⟨⟨fun q hq => hov q (by omega), by assumption⟩, rfl⟩⟩
      ·
        refine K.RW.qs [.bool false, .bool false] (by kernel_rfl) ?_
        refine K.RW.nil ?_
        refine K.thn_normal ?_
        refine K.KW.ret ?_
        refine ⟨.inr rfl, rfl, (.bool false), K.res1 rfl rfl, [gb, gu, gx], ?_, hS.pick [0, 1, 2, 3]⟩
        exact ⟨rfl, .inr ⟨fun hh => by have := hh.2; simp_all, rfl⟩⟩
end Go.Proofs.Ytnehocjmgnhhhaa
