import Derived.Test.YtnehocjmgnhhhaaDoorFs2
import Derived.Test.YtnehocjmgnhhhaaDoorKt
/- strings.Builder. -/
namespace Go.Proofs.YtnehocjmgnhhhaaDoor
open Go.RowKit
set_option linter.unusedVariables false
attribute [local irreducible] K.KW K.RW K.DW K.OW K.QR K.KC
set_option maxHeartbeats 1000000 in
set_option maxRecDepth 100000 in
theorem ccn_ok (w0 : World) (b : Nat) (gb : K.Cs) (a : Option Addr) (n cap : Nat) (hb : gb = [K.pt b 83 [.pointer none, .slice a n cap]]) :
    K.GC Tryd.prog w0 78 #[.pointer (some ⟨b, 0, none⟩)] [gb] (fun v post => ∃ gb', post = [gb'] ∧ gb' = [K.pt b 83 [.pointer (some ⟨b, 0, none⟩), .slice a n cap]]) := by
  refine K.GC.mk (n := 20) Tryd.func78 rfl rfl [.pointer (some ⟨b, 0, none⟩)] rfl rfl ?_
  intro fr w hS
  replace hS : K.Sat w0 [gb, fr] w := hS
  refine K.KW.seq ?_
  -- 0 :33
  refine K.KW.region ?_
  refine K.RW.qs [.pointer (some ⟨b, 0, none⟩), .pointer (some ⟨b, 0, none⟩), .pointer (some ⟨b, 0, none⟩)] (by kernel_rfl) ?_
  refine K.RW.q rfl rfl (K.QR.ld1 (v := .pointer none) rfl rfl (by kernel_rfl) ((hS.blk 0 rfl hb).cell rfl)) ?_
  refine K.RW.qs [.bool true] (by kernel_rfl) ?_
  refine K.RW.nil ?_
  refine K.thn_normal ?_
  refine K.KW.ifT rfl ?_
  -- 1 :39
  refine K.KW.region ?_
  refine K.RW.qs [.pointer (some ⟨b, 0, none⟩), .pointer (some ⟨b, 0, none⟩)] (by kernel_rfl) ?_
  refine K.RW.q rfl rfl (K.QR.cvU rfl rfl Tryd.underlying81 Tryd.underlying139 (by kernel_rfl) (hS.blk 0 rfl hb) (by simp)) ?_
  refine K.RW.q rfl rfl (K.QR.nesc rfl rfl Tryd.func95 (by kernel_rfl) (by kernel_rfl) (by kernel_rfl) (by kernel_rfl)) ?_
  refine K.RW.q rfl rfl (K.QR.cvF rfl rfl Tryd.underlying139 Tryd.underlying81 (by kernel_rfl) (hS.blk 0 rfl hb) (by kernel_rfl)) ?_
  refine K.RW.qs [.pointer (some ⟨b, 0, none⟩), .pointer (some ⟨b, 0, none⟩)] (by kernel_rfl) ?_
  refine K.RW.l rfl (K.OW.gst 0 [.pointer (some ⟨b, 0, none⟩)] [.pointer (some ⟨b, 0, none⟩), .slice a n cap] hS hb ?_)
  clear hS; intro w g_1 hg_2 hS
  replace hS : K.Sat w0 [g_1, fr] w := hS
  refine K.RW.nil ?_
  refine ⟨.inl rfl, rfl, (.tuple #[]), K.res0 rfl, [g_1], ?_, hS.pick [0, 1]⟩
  exact ⟨_, rfl, hg_2⟩
set_option maxHeartbeats 1000000 in
set_option maxRecDepth 100000 in
theorem ccs_ok (w0 : World) (b : Nat) (gb : K.Cs) (a : Option Addr) (n cap : Nat) (hb : gb = [K.pt b 83 [.pointer (some ⟨b, 0, none⟩), .slice a n cap]]) :
    K.GC Tryd.prog w0 78 #[.pointer (some ⟨b, 0, none⟩)] [gb] (fun v post => ∃ gb', post = [gb'] ∧ gb' = [K.pt b 83 [.pointer (some ⟨b, 0, none⟩), .slice a n cap]]) := by
  refine K.GC.mk (n := 20) Tryd.func78 rfl rfl [.pointer (some ⟨b, 0, none⟩)] rfl rfl ?_
  intro fr w hS
  replace hS : K.Sat w0 [gb, fr] w := hS
  refine K.KW.seq ?_
  -- 0 :33
  refine K.KW.region ?_
  refine K.RW.qs [.pointer (some ⟨b, 0, none⟩), .pointer (some ⟨b, 0, none⟩), .pointer (some ⟨b, 0, none⟩)] (by kernel_rfl) ?_
  refine K.RW.q rfl rfl (K.QR.ld1 (v := .pointer (some ⟨b, 0, none⟩)) rfl rfl (by kernel_rfl) ((hS.blk 0 rfl hb).cell rfl)) ?_
  refine K.RW.qs [.bool false] (by kernel_rfl) ?_
  refine K.RW.nil ?_
  refine K.thn_normal ?_
  refine K.KW.ifF rfl ?_
  refine K.KW.seq ?_
  -- 2 :40
  refine K.KW.region ?_
  refine K.RW.qs [.pointer (some ⟨b, 0, none⟩), .pointer (some ⟨b, 0, none⟩), .pointer (some ⟨b, 0, none⟩)] (by kernel_rfl) ?_
  refine K.RW.q rfl rfl (K.QR.ld1 (v := .pointer (some ⟨b, 0, none⟩)) rfl rfl (by kernel_rfl) ((hS.blk 0 rfl hb).cell rfl)) ?_
  refine K.RW.qs [.pointer (some ⟨b, 0, none⟩)] (by kernel_rfl) ?_
  refine K.RW.q rfl rfl (K.QR.pneq rfl rfl rfl Tryd.underlying81 (show _ = some _ from rfl)) ?_
  refine K.RW.nil ?_
  refine K.thn_normal ?_
  refine K.KW.ifF rfl ?_
  refine K.KW.skip ?_
  refine ⟨.inl rfl, rfl, (.tuple #[]), K.res0 rfl, [gb], ?_, hS.pick [0, 1]⟩
  exact ⟨_, rfl, hb⟩
set_option maxHeartbeats 1000000 in
set_option maxRecDepth 100000 in
theorem wsn_ok (w0 : World) (b : Nat) (gb : K.Cs) (a : Option Addr) (cap : Nat) (L M : List UInt8) (gr : K.Cs) (hr : K.OwnG gr 5 1 a L.length cap (L.flatMap K.cBy)) (hm : L.length + M.length ≤ 140737488355328) (hb : gb = [K.pt b 83 [.pointer none, .slice a L.length cap]]) :
    K.GC Tryd.prog w0 50 #[.pointer (some ⟨b, 0, none⟩), .string (K.sb M)] [gb, gr] (fun v post => ∃ a' cap' gb' gr', post = [gb', gr'] ∧ gb' = [K.pt b 83 [.pointer (some ⟨b, 0, none⟩), .slice a' (L ++ M).length cap']] ∧ K.OwnG gr' 5 1 a' (L ++ M).length cap' ((L ++ M).flatMap K.cBy) ∧ v = .tuple #[.int .i64 ((M.length : Nat) : Int), .nilIface]) := by
  refine K.GC.mk (n := 19) Tryd.func50 rfl rfl [.pointer (some ⟨b, 0, none⟩), .string (K.sb M)] rfl rfl ?_
  intro fr w hS
  replace hS : K.Sat w0 [gb, gr, fr] w := hS
  refine K.KW.seq ?_
  -- 0 :112
  refine K.KW.region ?_
  refine K.RW.qs [.int .i64 0, .nilIface] (by kernel_rfl) ?_
  refine K.RW.nil ?_
  refine K.thn_normal ?_
  refine K.KW.seq ?_
  -- 1 :113
  refine K.KW.region ?_
  refine K.RW.qs [.pointer (some ⟨b, 0, none⟩)] (by kernel_rfl) ?_
  refine K.RW.l rfl (K.OW.gcall hS [0] [1, 2] [.pointer (some ⟨b, 0, none⟩)] (ccn_ok _ b _ a L.length cap hb) ?_)
  clear hS; rintro _ _ w ⟨g_1, rfl, h_2⟩ hS
  replace hS : K.Sat w0 [g_1, gr, fr] w := hS
  refine K.RW.nil ?_
  refine K.thn_normal ?_
  refine K.KW.seq ?_
  -- 2 :114
  refine K.KW.region ?_
  refine K.RW.qs [.pointer (some ⟨b, 0, none⟩), .pointer (some ⟨b, 0, none⟩), .pointer (some ⟨b, 0, none⟩), .pointer (some ⟨b, 1, none⟩)] (by kernel_rfl) ?_
  refine K.RW.q rfl rfl (K.QR.ld1 (v := .slice a L.length cap) rfl rfl (by kernel_rfl) ((hS.blk 0 rfl h_2).cell rfl)) ?_
  refine K.RW.qs [.string (K.sb M)] (by kernel_rfl) ?_
  refine K.RW.l rfl (K.OW.gappS (L := L) (M := M) 1 hS hr ?_ Tryd.underlying66 Tryd.underlying9 (by kernel_rfl) (by omega))
  clear hS; intro a_3 cap_4 w l_5 o_6 hS
  replace hS : K.Sat w0 [g_1, l_5, fr] w := hS
  refine K.RW.qs [.pointer (some ⟨b, 0, none⟩), .pointer (some ⟨b, 1, none⟩)] (by kernel_rfl) ?_
  refine K.RW.l rfl (K.OW.gst 0 [.slice a_3 (L.length + M.length) cap_4] [.pointer (some ⟨b, 0, none⟩), .slice a_3 (L.length + M.length) cap_4] hS h_2 ?_)
  clear hS; intro w g_7 hg_8 hS
  replace hS : K.Sat w0 [g_7, l_5, fr] w := hS
  refine K.RW.nil ?_
  refine K.thn_normal ?_
  refine K.KW.seq ?_
  -- 3 :115
  refine K.KW.region ?_
  refine K.RW.qs [.string (K.sb M)] (by kernel_rfl) ?_
  refine K.RW.q rfl rfl (K.QR.sLen (xs := M) rfl rfl Tryd.underlying9) ?_
  refine K.RW.qs [.int .i64 ((M.length : Nat) : Int), .nilIface] (by kernel_rfl) ?_
  refine K.RW.nil ?_
  refine K.thn_normal ?_
  refine K.KW.ret ?_
  refine ⟨.inr rfl, rfl, (.tuple #[.int .i64 ((M.length : Nat) : Int), .nilIface]), K.res2 rfl rfl rfl, [g_7, l_5], ?_, hS.pick [0, 1, 2]⟩
  have hl : (L ++ M).length = L.length + M.length := List.length_append
  exact ⟨a_3, cap_4, _, _, rfl, by rw [hl]; exact hg_8, by rw [hl]; exact o_6, rfl⟩
set_option maxHeartbeats 1000000 in
set_option maxRecDepth 100000 in
theorem wss_ok (w0 : World) (b : Nat) (gb : K.Cs) (a : Option Addr) (cap : Nat) (L M : List UInt8) (gr : K.Cs) (hr : K.OwnG gr 5 1 a L.length cap (L.flatMap K.cBy)) (hm : L.length + M.length ≤ 140737488355328) (hb : gb = [K.pt b 83 [.pointer (some ⟨b, 0, none⟩), .slice a L.length cap]]) :
    K.GC Tryd.prog w0 50 #[.pointer (some ⟨b, 0, none⟩), .string (K.sb M)] [gb, gr] (fun v post => ∃ a' cap' gb' gr', post = [gb', gr'] ∧ gb' = [K.pt b 83 [.pointer (some ⟨b, 0, none⟩), .slice a' (L ++ M).length cap']] ∧ K.OwnG gr' 5 1 a' (L ++ M).length cap' ((L ++ M).flatMap K.cBy) ∧ v = .tuple #[.int .i64 ((M.length : Nat) : Int), .nilIface]) := by
  refine K.GC.mk (n := 19) Tryd.func50 rfl rfl [.pointer (some ⟨b, 0, none⟩), .string (K.sb M)] rfl rfl ?_
  intro fr w hS
  replace hS : K.Sat w0 [gb, gr, fr] w := hS
  refine K.KW.seq ?_
  -- 0 :112
  refine K.KW.region ?_
  refine K.RW.qs [.int .i64 0, .nilIface] (by kernel_rfl) ?_
  refine K.RW.nil ?_
  refine K.thn_normal ?_
  refine K.KW.seq ?_
  -- 1 :113
  refine K.KW.region ?_
  refine K.RW.qs [.pointer (some ⟨b, 0, none⟩)] (by kernel_rfl) ?_
  refine K.RW.l rfl (K.OW.gcall hS [0] [1, 2] [.pointer (some ⟨b, 0, none⟩)] (ccs_ok _ b _ a L.length cap hb) ?_)
  clear hS; rintro _ _ w ⟨g_1, rfl, h_2⟩ hS
  replace hS : K.Sat w0 [g_1, gr, fr] w := hS
  refine K.RW.nil ?_
  refine K.thn_normal ?_
  refine K.KW.seq ?_
  -- 2 :114
  refine K.KW.region ?_
  refine K.RW.qs [.pointer (some ⟨b, 0, none⟩), .pointer (some ⟨b, 0, none⟩), .pointer (some ⟨b, 0, none⟩), .pointer (some ⟨b, 1, none⟩)] (by kernel_rfl) ?_
  refine K.RW.q rfl rfl (K.QR.ld1 (v := .slice a L.length cap) rfl rfl (by kernel_rfl) ((hS.blk 0 rfl h_2).cell rfl)) ?_
  refine K.RW.qs [.string (K.sb M)] (by kernel_rfl) ?_
  refine K.RW.l rfl (K.OW.gappS (L := L) (M := M) 1 hS hr ?_ Tryd.underlying66 Tryd.underlying9 (by kernel_rfl) (by omega))
  clear hS; intro a_3 cap_4 w l_5 o_6 hS
  replace hS : K.Sat w0 [g_1, l_5, fr] w := hS
  refine K.RW.qs [.pointer (some ⟨b, 0, none⟩), .pointer (some ⟨b, 1, none⟩)] (by kernel_rfl) ?_
  refine K.RW.l rfl (K.OW.gst 0 [.slice a_3 (L.length + M.length) cap_4] [.pointer (some ⟨b, 0, none⟩), .slice a_3 (L.length + M.length) cap_4] hS h_2 ?_)
  clear hS; intro w g_7 hg_8 hS
  replace hS : K.Sat w0 [g_7, l_5, fr] w := hS
  refine K.RW.nil ?_
  refine K.thn_normal ?_
  refine K.KW.seq ?_
  -- 3 :115
  refine K.KW.region ?_
  refine K.RW.qs [.string (K.sb M)] (by kernel_rfl) ?_
  refine K.RW.q rfl rfl (K.QR.sLen (xs := M) rfl rfl Tryd.underlying9) ?_
  refine K.RW.qs [.int .i64 ((M.length : Nat) : Int), .nilIface] (by kernel_rfl) ?_
  refine K.RW.nil ?_
  refine K.thn_normal ?_
  refine K.KW.ret ?_
  refine ⟨.inr rfl, rfl, (.tuple #[.int .i64 ((M.length : Nat) : Int), .nilIface]), K.res2 rfl rfl rfl, [g_7, l_5], ?_, hS.pick [0, 1, 2]⟩
  have hl : (L ++ M).length = L.length + M.length := List.length_append
  exact ⟨a_3, cap_4, _, _, rfl, by rw [hl]; exact hg_8, by rw [hl]; exact o_6, rfl⟩
set_option maxHeartbeats 1000000 in
set_option maxRecDepth 100000 in
theorem bsr_ok (w0 : World) (b : Nat) (gb : K.Cs) (p : Value) (ga cap : Nat) (L : List UInt8) (h0 : L ≠ []) (gr : K.Cs) (hr : K.OwnG gr 5 1 (some ⟨ga, 0, none⟩) L.length cap (L.flatMap K.cBy)) (hb : gb = [K.pt b 83 [p, .slice (some ⟨ga, 0, none⟩) L.length cap]]) :
    K.GC Tryd.prog w0 51 #[.pointer (some ⟨b, 0, none⟩)] [gb, gr] (fun v post => post = [] ∧ v = .string (K.sb L)) := by
  refine K.GC.mk (n := 14) Tryd.func51 rfl rfl [.pointer (some ⟨b, 0, none⟩)] rfl rfl ?_
  intro fr w hS
  replace hS : K.Sat w0 [gb, gr, fr] w := hS
  refine K.KW.seq ?_
  -- 0 :46
  refine K.KW.region ?_
  refine K.RW.qs [.string (K.sb [])] (by kernel_rfl) ?_
  refine K.RW.nil ?_
  refine K.thn_normal ?_
  refine K.KW.seq ?_
  -- 1 :47
  refine K.KW.gdrawn [0] hS (by kernel_rfl) ?_
  clear hS; intro w hS
  refine K.DW.q 0 (by kernel_rfl) rfl rfl (by kernel_rfl) rfl (fun w hS => K.QR.k (v := .pointer (some ⟨b, 0, none⟩)) (by kernel_rfl)) (hS.pick [0]) ?_
  refine K.DW.q 1 (by kernel_rfl) rfl rfl (by kernel_rfl) rfl (fun w hS => K.QR.k (v := .pointer (some ⟨b, 0, none⟩)) (by kernel_rfl)) (hS.pick [0]) ?_
  refine K.DW.q 2 (by kernel_rfl) rfl rfl (by kernel_rfl) rfl (fun w hS => K.QR.k (v := .pointer (some ⟨b, 1, none⟩)) (by kernel_rfl)) (hS.pick [0]) ?_
  refine K.DW.q 3 (by kernel_rfl) rfl rfl (by kernel_rfl) rfl (fun w hS => K.QR.ld1 (v := .slice (some ⟨ga, 0, none⟩) L.length cap) rfl rfl (by kernel_rfl) ((hS.blk 0 rfl hb).cell rfl)) (hS.pick [0]) ?_
  refine K.DW.q 4 (by kernel_rfl) rfl rfl (by kernel_rfl) rfl (fun w hS => K.QR.usd rfl rfl (by have := hr.le; have := List.length_pos_iff.2 h0; omega)) (hS.pick [0]) ?_
  refine K.DW.l 5 rfl (by kernel_rfl) rfl (K.OW.q rfl (K.QR.k (v := .pointer (some ⟨b, 0, none⟩)) (by kernel_rfl)) ?_)
  refine ⟨.inl (hS.pick [0]), ?_⟩
  refine K.DW.l 6 rfl (by kernel_rfl) rfl (K.OW.q rfl (K.QR.k (v := .pointer (some ⟨b, 0, none⟩)) (by kernel_rfl)) ?_)
  refine ⟨.inl (hS.pick [0]), ?_⟩
  refine K.DW.l 7 rfl (by kernel_rfl) rfl (K.OW.q rfl (K.QR.k (v := .pointer (some ⟨b, 1, none⟩)) (by kernel_rfl)) ?_)
  refine ⟨.inl (hS.pick [0]), ?_⟩
  refine K.DW.l 8 rfl (by kernel_rfl) rfl (K.OW.q rfl (K.QR.ld1 (v := .slice (some ⟨ga, 0, none⟩) L.length cap) rfl rfl (by kernel_rfl) ((hS.blk 0 rfl hb).cell rfl)) ?_)
  refine ⟨.inl (hS.pick [0]), ?_⟩
  refine K.DW.l 9 rfl (by kernel_rfl) rfl (K.OW.q rfl (K.QR.len (P := Tryd.prog) rfl rfl Tryd.underlying66) ?_)
  refine ⟨.inl (hS.pick [0]), ?_⟩
  refine K.DW.l 10 rfl (by kernel_rfl) rfl (K.OW.gfrz (L := L) 1 hS hr rfl h0 ?_ Tryd.underlying118 (by kernel_rfl))
  clear hS; intro w hS
  replace hS : K.Sat w0 [gb, fr] w := hS.of (by simp [K.setn])
  refine ⟨.inl (hS.pick [0]), ?_⟩
  refine K.DW.l 11 rfl (by kernel_rfl) rfl (K.OW.q rfl (K.QR.k (v := .string (K.sb L)) (by kernel_rfl)) ?_)
  refine ⟨.inl (hS.pick [0]), ?_⟩
  refine K.DW.done (by kernel_rfl) ?_
  refine K.thn_normal ?_
  refine K.KW.ret ?_
  refine ⟨.inr rfl, rfl, (.string (K.sb L)), K.res1 rfl rfl, [], ?_, hS.pick [1]⟩
  exact ⟨rfl, rfl⟩
set_option maxHeartbeats 1000000 in
set_option maxRecDepth 100000 in
theorem bsn_ok (w0 : World) (b : Nat) (gb : K.Cs) (p : Value) (gr : K.Cs) (hb : gb = [K.pt b 83 [p, .slice none 0 0]]) :
    K.GC Tryd.prog w0 51 #[.pointer (some ⟨b, 0, none⟩)] [gb, gr] (fun v post => post = [] ∧ v = .string (K.sb [])) := by
  refine K.GC.mk (n := 14) Tryd.func51 rfl rfl [.pointer (some ⟨b, 0, none⟩)] rfl rfl ?_
  intro fr w hS
  replace hS : K.Sat w0 [gb, gr, fr] w := hS
  refine K.KW.seq ?_
  -- 0 :46
  refine K.KW.region ?_
  refine K.RW.qs [.string (K.sb [])] (by kernel_rfl) ?_
  refine K.RW.nil ?_
  refine K.thn_normal ?_
  refine K.KW.seq ?_
  -- 1 :47
  refine K.KW.gdrawn [0] hS (by kernel_rfl) ?_
  clear hS; intro w hS
  refine K.DW.q 0 (by kernel_rfl) rfl rfl (by kernel_rfl) rfl (fun w hS => K.QR.k (v := .pointer (some ⟨b, 0, none⟩)) (by kernel_rfl)) (hS.pick [0]) ?_
  refine K.DW.q 1 (by kernel_rfl) rfl rfl (by kernel_rfl) rfl (fun w hS => K.QR.k (v := .pointer (some ⟨b, 0, none⟩)) (by kernel_rfl)) (hS.pick [0]) ?_
  refine K.DW.q 2 (by kernel_rfl) rfl rfl (by kernel_rfl) rfl (fun w hS => K.QR.k (v := .pointer (some ⟨b, 1, none⟩)) (by kernel_rfl)) (hS.pick [0]) ?_
  refine K.DW.q 3 (by kernel_rfl) rfl rfl (by kernel_rfl) rfl (fun w hS => K.QR.ld1 (v := .slice none 0 0) rfl rfl (by kernel_rfl) ((hS.blk 0 rfl hb).cell rfl)) (hS.pick [0]) ?_
  refine K.DW.q 4 (by kernel_rfl) rfl rfl (by kernel_rfl) rfl (fun w hS => K.QR.usdN rfl rfl) (hS.pick [0]) ?_
  refine K.DW.l 5 rfl (by kernel_rfl) rfl (K.OW.q rfl (K.QR.k (v := .pointer (some ⟨b, 0, none⟩)) (by kernel_rfl)) ?_)
  refine ⟨.inl (hS.pick [0]), ?_⟩
  refine K.DW.l 6 rfl (by kernel_rfl) rfl (K.OW.q rfl (K.QR.k (v := .pointer (some ⟨b, 0, none⟩)) (by kernel_rfl)) ?_)
  refine ⟨.inl (hS.pick [0]), ?_⟩
  refine K.DW.l 7 rfl (by kernel_rfl) rfl (K.OW.q rfl (K.QR.k (v := .pointer (some ⟨b, 1, none⟩)) (by kernel_rfl)) ?_)
  refine ⟨.inl (hS.pick [0]), ?_⟩
  refine K.DW.l 8 rfl (by kernel_rfl) rfl (K.OW.q rfl (K.QR.ld1 (v := .slice none 0 0) rfl rfl (by kernel_rfl) ((hS.blk 0 rfl hb).cell rfl)) ?_)
  refine ⟨.inl (hS.pick [0]), ?_⟩
  refine K.DW.l 9 rfl (by kernel_rfl) rfl (K.OW.q rfl (K.QR.len (P := Tryd.prog) rfl rfl Tryd.underlying66) ?_)
  refine ⟨.inl (hS.pick [0]), ?_⟩
  refine K.DW.l 10 rfl (by kernel_rfl) rfl (K.OW.q rfl (K.QR.usN rfl rfl rfl) ?_)
  refine ⟨.inl (hS.pick [0]), ?_⟩
  refine K.DW.l 11 rfl (by kernel_rfl) rfl (K.OW.q rfl (K.QR.k (v := .string (K.sb [])) (by kernel_rfl)) ?_)
  refine ⟨.inl (hS.pick [0]), ?_⟩
  refine K.DW.done (by kernel_rfl) ?_
  refine K.thn_normal ?_
  refine K.KW.ret ?_
  refine ⟨.inr rfl, rfl, (.string (K.sb [])), K.res1 rfl rfl, [], ?_, hS.pick [2]⟩
  exact ⟨rfl, rfl⟩
set_option maxHeartbeats 1000000 in
set_option maxRecDepth 100000 in
theorem blen_ok (w0 : World) (b : Nat) (gb : K.Cs) (p : Value) (a : Option Addr) (n cap : Nat) (gr : K.Cs) (hb : gb = [K.pt b 83 [p, .slice a n cap]]) :
    K.GC Tryd.prog w0 70 #[.pointer (some ⟨b, 0, none⟩)] [gb, gr] (fun v post => post = [gb, gr] ∧ v = .int .i64 ((n : Nat) : Int)) := by
  refine K.GC.mk (n := 8) Tryd.func70 rfl rfl [.pointer (some ⟨b, 0, none⟩)] rfl rfl ?_
  intro fr w hS
  replace hS : K.Sat w0 [gb, gr, fr] w := hS
  refine K.KW.seq ?_
  -- 0 :51
  refine K.KW.region ?_
  refine K.RW.qs [.int .i64 0] (by kernel_rfl) ?_
  refine K.RW.nil ?_
  refine K.thn_normal ?_
  refine K.KW.seq ?_
  -- 1 :51
  refine K.KW.region ?_
  refine K.RW.qs [.pointer (some ⟨b, 0, none⟩), .pointer (some ⟨b, 0, none⟩), .pointer (some ⟨b, 1, none⟩)] (by kernel_rfl) ?_
  refine K.RW.q rfl rfl (K.QR.ld1 (v := .slice a n cap) rfl rfl (by kernel_rfl) ((hS.blk 0 rfl hb).cell rfl)) ?_
  refine K.RW.q rfl rfl (K.QR.len (P := Tryd.prog) rfl rfl Tryd.underlying66) ?_
  refine K.RW.qs [.int .i64 ((n : Nat) : Int)] (by kernel_rfl) ?_
  refine K.RW.nil ?_
  refine K.thn_normal ?_
  refine K.KW.ret ?_
  refine ⟨.inr rfl, rfl, (.int .i64 ((n : Nat) : Int)), K.res1 rfl rfl, [gb, gr], ?_, hS.pick [0, 1, 2]⟩
  exact ⟨rfl, rfl⟩
/-- a strings.Builder of the call's own, that holds these bytes -/
def BldG (g : K.Cs) (b : Nat) (L : List UInt8) : Prop :=
  ∃ (p : Value) (a : Option Addr) (cap : Nat) (gb gr : K.Cs), g = gb ++ gr ∧ (p = .pointer none ∨ p = .pointer (some ⟨b, 0, none⟩)) ∧ gb = [K.pt b 83 [p, .slice a L.length cap]] ∧ K.OwnG gr 5 1 a L.length cap (L.flatMap K.cBy) ∧ (L = [] → a = none)
theorem bldNew {g : K.Cs} {b : Nat} (h : g = [K.pt b 83 [.pointer none, .slice none 0 0]]) : BldG g b [] := ⟨_, none, 0, g, [], by simp, .inl rfl, h, K.OwnG.nil _ _, fun _ => rfl⟩
theorem write_ok (w0 : World) (g : K.Cs) (b : Nat) (L M : List UInt8) (x : BldG g b L) (hM : M ≠ []) (hm : L.length + M.length ≤ 140737488355328) :
    K.GC Tryd.prog w0 50 #[.pointer (some ⟨b, 0, none⟩), .string (K.sb M)] [g] (fun v post => v = .tuple #[.int .i64 ((M.length : Nat) : Int), .nilIface] ∧ ∃ g', post = [g'] ∧ BldG g' b (L ++ M)) := by
  obtain ⟨p, a, cap, gb, gr, rfl, hp, hb, hr, _⟩ := x
  have key : K.GC Tryd.prog w0 50 #[.pointer (some ⟨b, 0, none⟩), .string (K.sb M)] [gb, gr] (fun v post => ∃ a' cap' gb' gr', post = [gb', gr'] ∧ gb' = [K.pt b 83 [.pointer (some ⟨b, 0, none⟩), .slice a' (L ++ M).length cap']] ∧ K.OwnG gr' 5 1 a' (L ++ M).length cap' ((L ++ M).flatMap K.cBy) ∧ v = .tuple #[.int .i64 ((M.length : Nat) : Int), .nilIface]) := by
    rcases hp with rfl | rfl
    · exact wsn_ok w0 b gb a cap L M gr hr hm hb
    · exact wss_ok w0 b gb a cap L M gr hr hm hb
  refine (K.GC.join2 key (by rintro v post ⟨_, _, _, _, rfl, _⟩; exact ⟨_, _, rfl⟩)).mono ?_
  rintro v post ⟨p', q', rfl, a', cap', gb', gr', h, hb', hr', rfl⟩
  cases h
  exact ⟨rfl, _, rfl, _, _, _, _, _, rfl, .inr rfl, hb', hr', fun e => absurd (List.append_eq_nil_iff.1 e).2 hM⟩
theorem bstring_ok (w0 : World) (g : K.Cs) (b : Nat) (L : List UInt8) (x : BldG g b L) : K.GC Tryd.prog w0 51 #[.pointer (some ⟨b, 0, none⟩)] [g] (fun v post => post = [] ∧ v = .string (K.sb L)) := by
  obtain ⟨p, a, cap, gb, gr, rfl, hp, hb, hr, h0⟩ := x
  refine K.GC.join20 ?_
  by_cases hL : L = []
  · subst hL
    have ha := h0 rfl
    subst ha
    have hc : cap = 0 := by
      rcases hr.form with ⟨_, _, h⟩ | ⟨g', h⟩
      · exact h
      · cases h
    subst hc
    exact bsn_ok w0 b gb p gr hb
  · obtain ⟨g', rfl⟩ : ∃ g', a = some ⟨g', 0, none⟩ := hr.some_ (by have := hr.le; have := List.length_pos_iff.2 hL; omega)
    exact bsr_ok w0 b gb p g' cap L hL gr hr hb
theorem blength_ok (w0 : World) (g : K.Cs) (b : Nat) (L : List UInt8) (x : BldG g b L) : K.GC Tryd.prog w0 70 #[.pointer (some ⟨b, 0, none⟩)] [g] (fun v post => post = [g] ∧ v = .int .i64 ((L.length : Nat) : Int)) := by
  obtain ⟨p, a, cap, gb, gr, rfl, hp, hb, hr, h0⟩ := x
  refine (K.GC.join2 (blen_ok w0 b gb p a _ cap gr hb) (by rintro v post ⟨rfl, _⟩; exact ⟨_, _, rfl⟩)).mono ?_
  rintro v post ⟨p', q', rfl, h, rfl⟩
  cases h
  exact ⟨rfl, rfl⟩
end Go.Proofs.YtnehocjmgnhhhaaDoor
