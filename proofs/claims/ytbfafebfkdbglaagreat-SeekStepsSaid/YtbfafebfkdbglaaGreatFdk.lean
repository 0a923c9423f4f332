/- The document's machine of layer 14. -/
import Derived.Test.YtbfafebfkdbglaaGreatFsk2
import Derived.Test.YtbfafebfkdbglaaGreatFrk
import Derived.Test.YtbfafebfkdbglaaGreatKn
namespace Go.Proofs.YtbfafebfkdbglaaGreat
open Go.RowKit
set_option linter.unusedVariables false
attribute [local irreducible] K.KW K.RW K.DW K.OW K.QR K.KC
def dkLn (S : SkS) : Int := if S.done = true then 0 else S.mode
abbrev dkPt (p : Nat) (c : Cfg) (ln : Int) (ra sa : Option Addr) (S : SkS) : K.Cs := [K.pt p 66 [.int .i64 c.th, .int .i64 c.sl, .int .i64 c.lo, .int .i64 c.bu, .int .i64 S.t, .int .i64 S.head, .int .u32 S.key, .int .i64 ln, .pointer ra, .pointer sa, .bool S.found, .int .i64 S.prev, .int .u64 S.word, .int .i64 S.came, .int .i64 S.curr, .int .u64 S.link, .int .i64 S.when_]]
def DkTail (S : SkS) (ra sa : Option Addr) (g : K.Cs) : Prop :=
 S.done = true ∨ (S.done = false ∧ ¬ S.mode = 3 ∧ ∃ r gt, ra = some ⟨r, 0, none⟩ ∧ g = rrdPt r S.rd gt ∧ gtOk S.rd gt) ∨ (S.done = false ∧ S.mode = 3 ∧ ∃ q, sa = some ⟨q, 0, none⟩ ∧ g = rsePt q S.se)
theorem toI_rng (w : Int) : -1 ≤ toI w ∧ toI w < 4294967295 := by unfold toI; omega
theorem dk_f {S : SkS} (h : S.done = false) : dkLn S = S.mode := if_neg (by rw [h]; decide)
theorem dk_t {S : SkS} (h : S.done = true) : dkLn S = 0 := if_pos h
theorem dk_ln {p : Nat} {c : Cfg} {ln : Int} {ra sa : Option Addr} {S : SkS} {gp : K.Cs} (h : gp = dkPt p c ln ra sa S) (hl : ln = dkLn S) : gp = dkPt p c (dkLn S) ra sa S := by rw [← hl]; exact h
theorem dkOn_1 {c : Cfg} {S : SkS} {w ca : Int} (h : toI w = -1) : (skOn c S w ca).done = true := by unfold skOn; rw [if_pos h]
theorem dkOn_2 {c : Cfg} {S : SkS} {w ca : Int} (h : ¬ toI w = -1) : (skOn c S w ca).done = S.done ∧ (skOn c S w ca).mode = 2 ∧ (skOn c S w ca).rd = ⟨S.t, nextS c (toI w), 0, 0, -1⟩ := by unfold skOn; rw [if_neg h]; exact ⟨rfl, rfl, rfl⟩
set_option maxHeartbeats 1000000 in
set_option maxRecDepth 100000 in
theorem rby_ok (w0 : World) (x : Int) (hx : isW x) :
  K.GC Tryz.prog w0 75 #[.int .u64 x] [] (fun v post => v = .int .i64 (byI x) ∧ post = []) := by
 have hx2 := hx
 unfold isW at hx2
 refine K.GC.mk (n := 8) Tryz.func75 rfl rfl [.int .u64 x] rfl rfl ?_
 intro fr w hS
 replace hS : K.Sat w0 [fr] w := hS
 refine K.s (K.g (K.q [.int .i64 0] (K.z (K.t (K.s (K.g (K.q [.int .u64 x] ?_)))))))
 refine K.a (K.QR.quou64 (x : Int) 4294967296 ((x : Int) / 4294967296) (by kernel_rfl) (by omega) (by omega)) ?_
 refine K.a (K.QR.remu64 ((x : Int) / 4294967296 : Int) 128 (((x : Int) / 4294967296 : Int) % 128) (by kernel_rfl) (by omega) (by omega)) ?_
 refine K.a (K.QR.nice (v := .int .i64 (IntKind.i64.wrap (((x : Int) / 4294967296 : Int) % 128))) (by kernel_rfl) (congrArg (Value.int .i64) (IntWalk.i64_in _ (by omega)))) ?_
 refine K.a (K.QR.n64 ((((x : Int) / 4294967296 : Int) % 128 : Int) + ((-1) : Int)) ((((x : Int) / 4294967296 : Int) % 128 : Int) + ((-1) : Int)) (by kernel_rfl) (by omega)) ?_
 refine K.q [.int .i64 ((((x : Int) / 4294967296 : Int) % 128 : Int) + ((-1) : Int))] (K.z (K.t (K.r ?_)))
 refine ⟨.inr rfl, rfl, (.int .i64 ((((x : Int) / 4294967296 : Int) % 128 : Int) + ((-1) : Int))), K.res1 rfl rfl, [], ?_, hS.pick [0]⟩
 exact ⟨congrArg (Value.int .i64) (by unfold byI; omega), rfl⟩
set_option maxHeartbeats 1000000 in
set_option maxRecDepth 100000 in
theorem rnext_ok (w0 : World) (c : Cfg) (hc : cfgOk c) (s : Int) :
  K.GC Tryz.prog w0 16 #[.agg #[.int .i64 c.th, .int .i64 c.sl, .int .i64 c.lo, .int .i64 c.bu], .int .i64 s] [] (fun v post => v = .int .i64 (nextS c s) ∧ post = []) := by
 refine K.GC.mk (n := 9) Tryz.func16 rfl rfl [.agg #[.int .i64 c.th, .int .i64 c.sl, .int .i64 c.lo, .int .i64 c.bu], .int .i64 s] rfl rfl ?_
 intro fr w hS
 replace hS : K.Sat w0 [fr] w := hS
 refine K.s (K.g ?_)
 refine K.l (K.OW.gnew 23 [.int .i64 c.th, .int .i64 c.sl, .int .i64 c.lo, .int .i64 c.bu] hS ?_)
 clear hS; intro w r_1 g_2 hg_3 hS
 refine K.q [.int .i64 0] (K.z (K.t (K.s (K.g ?_))))
 refine K.a (K.QR.ldN [.int .i64 c.th, .int .i64 c.sl, .int .i64 c.lo, .int .i64 c.bu] rfl rfl (by kernel_rfl) (by kernel_rfl) (K.cells (K.cl ((hS.blk 0 rfl hg_3).cell rfl) (K.cl ((hS.blk 0 rfl hg_3).cell rfl) (K.cl ((hS.blk 0 rfl hg_3).cell rfl) (K.cl ((hS.blk 0 rfl hg_3).cell rfl) K.cl0)))))) ?_
 refine K.q [.int .i64 s] ?_
 refine K.a (K.QR.bd [(0, .int .i64 12), (1, .int .i64 s)] [.int .i64 12, .int .i64 s, .int .i64 0] rfl rfl (by kernel_rfl)) ?_
 refine K.l (K.OW.gcall hS [] [0, 1] [.agg #[.int .i64 c.th, .int .i64 c.sl, .int .i64 c.lo, .int .i64 c.bu], .agg #[.int .i64 12, .int .i64 s, .int .i64 0]] (at_ok _ c (⟨12, s, 0⟩ : Nm) (by assumption)) ?_)
 clear hS; rintro _ _ w ⟨rfl, rfl⟩ hS
 replace hS : K.Sat w0 [g_2, fr] w := hS
 refine K.q [.int .i64 (atT (lasting c) (passing c) (⟨12, s, 0⟩ : Nm))] (K.z (K.t (K.r ?_)))
 refine ⟨.inr rfl, rfl, (.int .i64 (atT (lasting c) (passing c) (⟨12, s, 0⟩ : Nm))), K.res1 rfl rfl, [], ?_, hS.pick [1]⟩
 exact ⟨congrArg (Value.int .i64) (at_next hc s), rfl⟩
theorem rkey_ok (w0 : World) (c : Cfg) (s : Int) (hc : cfgOk c) : K.GC Tryz.prog w0 57 #[.agg #[.int .i64 c.th, .int .i64 c.sl, .int .i64 c.lo, .int .i64 c.bu], .agg #[.int .i64 10, .int .i64 s, .int .i64 0]] [] (fun v post => v = .int .i64 (keyS c s) ∧ post = []) := by
 refine (at_ok w0 c ⟨10, s, 0⟩ hc).mono ?_
 rintro v post ⟨rfl, rfl⟩
 exact ⟨congrArg (Value.int .i64) (at_key hc s), rfl⟩
set_option maxHeartbeats 1000000 in
set_option maxRecDepth 100000 in
theorem dkBegin_ok (w0 : World) (p : Nat) (c : Cfg) (ln : Int) (ra sa : Option Addr) (S : SkS) (gp : K.Cs) (hgp : gp = dkPt p c ln ra sa S) (ht : isInt S.t) (hh : isInt S.head) :
  K.GC Tryz.prog w0 73 #[.pointer (some ⟨p, 0, none⟩)] [gp] (fun v post => ∃ gp' r g1, v = .tuple #[] ∧ post = [gp', g1] ∧ gp' = dkPt p c 1 (some ⟨r, 0, none⟩) sa (skBegin S) ∧ g1 = rrdPt r ⟨S.t, S.head, 0, 0, -1⟩ 0) := by
 refine K.GC.mk (n := 24) Tryz.func73 rfl rfl [.pointer (some ⟨p, 0, none⟩)] rfl rfl ?_
 intro fr w hS
 replace hS : K.Sat w0 [gp, fr] w := hS
 refine K.s (K.g (K.q [.pointer (some ⟨p, 0, none⟩), .pointer (some ⟨p, 0, none⟩), .pointer (some ⟨p, 7, none⟩)] ?_))
 refine K.l (K.OW.gst 0 [.int .i64 1] _ hS hgp ?_)
 clear hS; intro w g_1 hg_2 hS
 replace hS : K.Sat w0 [g_1, fr] w := hS
 refine K.z (K.t (K.s (K.g (K.q [.pointer (some ⟨p, 0, none⟩), .pointer (some ⟨p, 0, none⟩), .pointer (some ⟨p, 0, none⟩), .pointer (some ⟨p, 5, none⟩)] ?_))))
 refine K.d (.int .i64 S.head) ((hS.blk 0 rfl hg_2).cell rfl) ?_
 refine K.q [.pointer (some ⟨p, 0, none⟩), .pointer (some ⟨p, 11, none⟩)] ?_
 refine K.l (K.OW.gst 0 [.int .i64 S.head] _ hS hg_2 ?_)
 clear hS; intro w g_3 hg_4 hS
 replace hS : K.Sat w0 [g_3, fr] w := hS
 refine K.z (K.t ?_)
 refine K.KW.gdrawn [0] hS (by kernel_rfl) ?_
 clear hS; intro w hS
 refine K.p 0 rfl (.pointer (some ⟨p, 0, none⟩)) (hS.pick [0]) ?_
 refine K.p 1 rfl (.pointer (some ⟨p, 0, none⟩)) (hS.pick [0]) ?_
 refine K.p 2 rfl (.pointer (some ⟨p, 0, none⟩)) (hS.pick [0]) ?_
 refine K.p 3 rfl (.pointer (some ⟨p, 4, none⟩)) (hS.pick [0]) ?_
 refine K.o_ 4 rfl (.int .i64 S.t) (fun w hS => ((hS.blk 0 rfl hg_4).cell rfl)) (hS.pick [0]) ?_
 refine K.b 5 rfl (.pointer (some ⟨p, 0, none⟩)) (hS.pick [0]) ?_
 refine K.b 6 rfl (.pointer (some ⟨p, 0, none⟩)) (hS.pick [0]) ?_
 refine K.b 7 rfl (.pointer (some ⟨p, 5, none⟩)) (hS.pick [0]) ?_
 refine K.c 8 rfl (K.QR.ld1 (v := .int .i64 S.head) rfl rfl (by kernel_rfl) ((hS.blk 0 rfl hg_4).cell rfl)) (hS.pick [0]) ?_
 refine K.DW.l 9 rfl (by kernel_rfl) rfl (K.OW.gcall hS [] [0, 1] [.int .i64 S.t, .int .i64 S.head] (newrrd_ok _ S.t (by first | omega | assumption) S.head (by first | omega | assumption)) ?_)
 clear hS; rintro _ _ w ⟨p_5, g_6, rfl, rfl, h_7⟩ hS
 replace hS : K.Sat w0 [g_6, g_3, fr] w := hS
 refine ⟨.inl (hS.pick [1]), ?_⟩
 refine K.b 10 rfl (.pointer (some ⟨p, 0, none⟩)) (hS.pick [1]) ?_
 refine K.b 11 rfl (.pointer (some ⟨p, 8, none⟩)) (hS.pick [1]) ?_
 refine K.DW.l 12 rfl (by kernel_rfl) rfl (K.OW.gst 1 [.pointer (some ⟨p_5, 0, none⟩)] _ hS hg_4 ?_)
 clear hS; intro w g_8 hg_9 hS
 replace hS : K.Sat w0 [g_6, g_8, fr] w := hS
 refine ⟨.inr (by kernel_rfl), ?_⟩
 refine K.DW.done (by kernel_rfl) ?_
 refine ⟨.inl rfl, rfl, (.tuple #[]), K.res0 rfl, [g_8, g_6], ?_, hS.pick [1, 0, 2]⟩
 exact ⟨_, _, _, rfl, rfl, hg_9, h_7⟩
set_option maxHeartbeats 1000000 in
set_option maxRecDepth 100000 in
theorem dkOn_ok (w0 : World) (p : Nat) (c : Cfg) (ln : Int) (ra sa : Option Addr) (S : SkS) (gp : K.Cs) (hgp : gp = dkPt p c ln ra sa S) (hc : cfgOk c) (ht : isInt S.t) (wo ca : Int) (hw : isW wo) :
  K.GC Tryz.prog w0 76 #[.pointer (some ⟨p, 0, none⟩), .int .u64 wo, .int .i64 ca] [gp] (fun v post => v = .tuple #[] ∧ ((∃ gp', post = [gp'] ∧ toI wo = -1 ∧ gp' = dkPt p c 0 ra sa (skOn c S wo ca)) ∨ (∃ gp' r g1, post = [gp', g1] ∧ ¬ toI wo = -1 ∧ gp' = dkPt p c 2 (some ⟨r, 0, none⟩) sa (skOn c S wo ca) ∧ g1 = rrdPt r ⟨S.t, nextS c (toI wo), 0, 0, -1⟩ 0))) := by
 refine K.GC.mk (n := 54) Tryz.func76 rfl rfl [.pointer (some ⟨p, 0, none⟩), .int .u64 wo, .int .i64 ca] rfl rfl ?_
 intro fr w hS
 replace hS : K.Sat w0 [gp, fr] w := hS
 refine K.s (K.g (K.q [.pointer (some ⟨p, 0, none⟩), .int .u64 wo, .pointer (some ⟨p, 0, none⟩), .pointer (some ⟨p, 12, none⟩)] ?_))
 refine K.l (K.OW.gst 0 [.int .u64 wo] _ hS hgp ?_)
 clear hS; intro w g_1 hg_2 hS
 replace hS : K.Sat w0 [g_1, fr] w := hS
 refine K.z (K.t (K.s (K.g (K.q [.pointer (some ⟨p, 0, none⟩), .int .i64 ca, .pointer (some ⟨p, 0, none⟩), .pointer (some ⟨p, 13, none⟩)] ?_))))
 refine K.l (K.OW.gst 0 [.int .i64 ca] _ hS hg_2 ?_)
 clear hS; intro w g_3 hg_4 hS
 replace hS : K.Sat w0 [g_3, fr] w := hS
 refine K.z (K.t (K.s (K.g (K.q [.pointer (some ⟨p, 0, none⟩), .int .u64 wo] ?_))))
 refine K.l (K.OW.gcall hS [] [0, 1] [.int .u64 wo] (rto_ok _ wo (by first | assumption | exact rdWord_w (by assumption) | exact isL.w (by assumption) | exact linkI_w _ _ | (unfold isW; omega))) ?_)
 clear hS; rintro _ _ w ⟨rfl, rfl⟩ hS
 replace hS : K.Sat w0 [g_3, fr] w := hS
 have hir_5 := toI_rng wo
 refine K.q [.pointer (some ⟨p, 0, none⟩), .pointer (some ⟨p, 14, none⟩)] ?_
 refine K.l (K.OW.gst 0 [.int .i64 (toI wo)] _ hS hg_4 ?_)
 clear hS; intro w g_6 hg_7 hS
 replace hS : K.Sat w0 [g_6, fr] w := hS
 refine K.z (K.t (K.s (K.g (K.q [.pointer (some ⟨p, 0, none⟩), .pointer (some ⟨p, 0, none⟩), .pointer (some ⟨p, 7, none⟩)] ?_))))
 refine K.l (K.OW.gst 0 [.int .i64 2] _ hS hg_7 ?_)
 clear hS; intro w g_8 hg_9 hS
 replace hS : K.Sat w0 [g_8, fr] w := hS
 refine K.z (K.t (K.s (K.s (K.g (K.q [.pointer (some ⟨p, 0, none⟩), .pointer (some ⟨p, 0, none⟩), .pointer (some ⟨p, 14, none⟩)] ?_)))))
 refine K.d (.int .i64 (toI wo)) ((hS.blk 0 rfl hg_9).cell rfl) ?_
 by_cases h_10 : ((toI wo) : Int) < (0 : Int)
 ·
  refine K.y (((toI wo) : Int) < (0 : Int)) h_10 ?_
  refine K.z (K.t (K.h (K.s (K.g (K.q [.pointer (some ⟨p, 0, none⟩), .pointer (some ⟨p, 0, none⟩), .pointer (some ⟨p, 15, none⟩)] ?_)))))
  refine K.l (K.OW.gst 0 [.int .u64 0] _ hS hg_9 ?_)
  clear hS; intro w g_11 hg_12 hS
  replace hS : K.Sat w0 [g_11, fr] w := hS
  refine K.z (K.t (K.s (K.g (K.q [.pointer (some ⟨p, 0, none⟩), .int .i64 ca, .pointer (some ⟨p, 0, none⟩), .pointer (some ⟨p, 16, none⟩)] ?_))))
  refine K.l (K.OW.gst 0 [.int .i64 ca] _ hS hg_12 ?_)
  clear hS; intro w g_13 hg_14 hS
  replace hS : K.Sat w0 [g_13, fr] w := hS
  refine K.z (K.t (K.s (K.g (K.q [.pointer (some ⟨p, 0, none⟩), .pointer (some ⟨p, 0, none⟩), .pointer (some ⟨p, 7, none⟩)] ?_))))
  refine K.l (K.OW.gst 0 [.int .i64 0] _ hS hg_14 ?_)
  clear hS; intro w g_15 hg_16 hS
  replace hS : K.Sat w0 [g_15, fr] w := hS
  refine K.z (K.t (K.r (K.u ?_)))
  refine ⟨.inr rfl, rfl, (.tuple #[]), K.res0 rfl, [g_15], ?_, hS.pick [0, 1]⟩
  exact ⟨rfl, .inl ⟨_, rfl, by omega, by unfold skOn; rw [if_pos (by omega)]; exact hg_16⟩⟩
 ·
  refine K.x (((toI wo) : Int) < (0 : Int)) h_10 ?_
  refine K.z (K.t (K.f (K.k (K.t ?_))))
  refine K.KW.gdrawn [0] hS (by kernel_rfl) ?_
  clear hS; intro w hS
  refine K.p 0 rfl (.pointer (some ⟨p, 0, none⟩)) (hS.pick [0]) ?_
  refine K.p 1 rfl (.pointer (some ⟨p, 0, none⟩)) (hS.pick [0]) ?_
  refine K.p 2 rfl (.pointer (some ⟨p, 0, none⟩)) (hS.pick [0]) ?_
  refine K.p 3 rfl (.pointer (some ⟨p, 4, none⟩)) (hS.pick [0]) ?_
  refine K.o_ 4 rfl (.int .i64 S.t) (fun w hS => ((hS.blk 0 rfl hg_9).cell rfl)) (hS.pick [0]) ?_
  refine K.p 5 rfl (.pointer (some ⟨p, 0, none⟩)) (hS.pick [0]) ?_
  refine K.p 6 rfl (.pointer (some ⟨p, 0, none⟩)) (hS.pick [0]) ?_
  refine K.p 7 rfl (.pointer (some ⟨p, 0, none⟩)) (hS.pick [0]) ?_
  refine K.m 8 rfl (fun w hS => K.QR.ldN [.int .i64 c.th, .int .i64 c.sl, .int .i64 c.lo, .int .i64 c.bu] rfl rfl (by kernel_rfl) (by kernel_rfl) (K.cells (K.cl ((hS.blk 0 rfl hg_9).cell rfl) (K.cl ((hS.blk 0 rfl hg_9).cell rfl) (K.cl ((hS.blk 0 rfl hg_9).cell rfl) (K.cl ((hS.blk 0 rfl hg_9).cell rfl) K.cl0)))))) (hS.pick [0]) ?_
  refine K.b 9 rfl (.pointer (some ⟨p, 0, none⟩)) (hS.pick [0]) ?_
  refine K.b 10 rfl (.pointer (some ⟨p, 0, none⟩)) (hS.pick [0]) ?_
  refine K.b 11 rfl (.pointer (some ⟨p, 14, none⟩)) (hS.pick [0]) ?_
  refine K.c 12 rfl (K.QR.ld1 (v := .int .i64 (toI wo)) rfl rfl (by kernel_rfl) ((hS.blk 0 rfl hg_9).cell rfl)) (hS.pick [0]) ?_
  refine K.DW.l 13 rfl (by kernel_rfl) rfl (K.OW.gcall hS [] [0, 1] [.agg #[.int .i64 c.th, .int .i64 c.sl, .int .i64 c.lo, .int .i64 c.bu], .int .i64 (toI wo)] (rnext_ok _ c (by assumption) (toI wo)) ?_)
  clear hS; rintro _ _ w ⟨rfl, rfl⟩ hS
  replace hS : K.Sat w0 [g_8, fr] w := hS
  have hi_17 : isInt (nextS c (toI wo)) := next_int (by assumption) _
  refine ⟨.inl (hS.pick [0]), ?_⟩
  refine K.DW.l 14 rfl (by kernel_rfl) rfl (K.OW.gcall hS [] [0, 1] [.int .i64 S.t, .int .i64 (nextS c (toI wo))] (newrrd_ok _ S.t (by first | omega | assumption) (nextS c (toI wo)) (by first | omega | assumption)) ?_)
  clear hS; rintro _ _ w ⟨p_18, g_19, rfl, rfl, h_20⟩ hS
  replace hS : K.Sat w0 [g_19, g_8, fr] w := hS
  refine ⟨.inl (hS.pick [1]), ?_⟩
  refine K.b 15 rfl (.pointer (some ⟨p, 0, none⟩)) (hS.pick [1]) ?_
  refine K.b 16 rfl (.pointer (some ⟨p, 8, none⟩)) (hS.pick [1]) ?_
  refine K.DW.l 17 rfl (by kernel_rfl) rfl (K.OW.gst 1 [.pointer (some ⟨p_18, 0, none⟩)] _ hS hg_9 ?_)
  clear hS; intro w g_21 hg_22 hS
  replace hS : K.Sat w0 [g_19, g_21, fr] w := hS
  refine ⟨.inr (by kernel_rfl), ?_⟩
  refine K.DW.done (by kernel_rfl) ?_
  refine ⟨.inl rfl, rfl, (.tuple #[]), K.res0 rfl, [g_21, g_19], ?_, hS.pick [1, 0, 2]⟩
  exact ⟨rfl, .inr ⟨_, _, _, rfl, by omega, by unfold skOn; rw [if_neg (by omega)]; exact hg_22, h_20⟩⟩
set_option maxHeartbeats 1000000 in
set_option maxRecDepth 100000 in
theorem dkStep_1 (w0 : World) (p pm q n t : Nat) (r : Nat) (gt : Int) (sa : Option Addr) (c : Cfg) (hc : cfgOk c) (S : SkS) (M : MemM) (gp gx l : K.Cs) (hgp : gp = dkPt p c 1 ((some ⟨r, 0, none⟩)) (sa) S) (hgx : gx = rrdPt r S.rd gt) (x : RMemAt l pm q n t M) (hM : M.good) (hS : S.good) (hd : S.done = false) (hm : S.mode = 1) (hgt : gtOk S.rd gt) :
  K.GC Tryz.prog w0 23 #[.pointer (some ⟨p, 0, none⟩), .pointer (some ⟨pm, 0, none⟩)] [gp, gx, l] (fun v post => ∃ ra' sa' gp' g1 l', v = .tuple #[] ∧ post = [gp', g1, l'] ∧ gp' = dkPt p c (dkLn (skStep c n t S M).1) ra' sa' (skStep c n t S M).1 ∧ DkTail (skStep c n t S M).1 ra' sa' g1 ∧ RMemAt l' pm q n t (skStep c n t S M).2) := by
 have hSt := hS.t; have hSh := hS.head; have hSk := hS.key; have hSp := hS.prev; have hSw := hS.word; have hSl := hS.link; have hSc := hS.curr; have hSrd := hS.rd; have hSse := hS.se; have hSf := hS.found hd
 have hSl2 := hSl
 unfold isL at hSl2
 refine K.GC.mk (n := 263) Tryz.func23 rfl rfl [.pointer (some ⟨p, 0, none⟩), .pointer (some ⟨pm, 0, none⟩)] rfl rfl ?_
 intro fr w hS
 replace hS : K.Sat w0 [gp, gx, l, fr] w := hS
 refine K.s (K.s (K.g (K.q [.pointer (some ⟨p, 0, none⟩), .pointer (some ⟨p, 0, none⟩), .pointer (some ⟨p, 7, none⟩)] ?_)))
 refine K.d (.int .i64 1) ((hS.blk 0 rfl hgp).cell rfl) ?_
 refine K.q [.bool true] (K.z (K.t (K.h (K.s (K.g (K.q [.pointer (some ⟨p, 0, none⟩), .pointer (some ⟨p, 0, none⟩), .pointer (some ⟨p, 8, none⟩)] ?_))))))
 refine K.d (.pointer (some ⟨r, 0, none⟩)) ((hS.blk 0 rfl hgp).cell rfl) ?_
 refine K.q [.pointer (some ⟨pm, 0, none⟩)] ?_
 refine K.l (K.OW.gcall hS [1, 2] [0, 3] [.pointer (some ⟨r, 0, none⟩), .pointer (some ⟨pm, 0, none⟩)] (rrdStep_ok _ _ _ _ _ _ S.rd M gt _ _ hgx x (by assumption) (by assumption) (by assumption)) ?_)
 clear hS; rintro _ _ w ⟨g_1, l_2, u_3, rfl, rfl, h_4, k_5, x_6⟩ hS
 replace hS : K.Sat w0 [g_1, l_2, gp, fr] w := hS
 refine K.z (K.t (K.s (K.s ?_)))
 cases hb_7 : (rdStep n t S.rd M).1.done
 ·
  obtain ⟨hRg, hRm⟩ := rdStep_good2 (n := n) (nt := t) hSrd hM
  have hRw := rdWord_l hRg
  have hRw2 := hRw
  unfold isL at hRw2
  refine K.g (K.q [.pointer (some ⟨p, 0, none⟩), .pointer (some ⟨p, 0, none⟩), .pointer (some ⟨p, 8, none⟩)] ?_)
  refine K.d (.pointer (some ⟨r, 0, none⟩)) ((hS.blk 2 rfl hgp).cell rfl) ?_
  refine K.q [.pointer (some ⟨r, 0, none⟩), .pointer (some ⟨r, 2, none⟩)] ?_
  refine K.d (.int .i64 (lineL (rdStep n t S.rd M).1.pc)) ((hS.blk 0 rfl h_4).cell rfl) ?_
  refine K.xe ((lineL (rdStep n t S.rd M).1.pc) : Int) (0 : Int) (rline_f hb_7 hRg) ?_
  refine K.q [.bool false] (K.n_ (K.n_ (K.n_ (K.n_ (K.n_ (K.n_ (K.n_ (K.n_ (K.n_ (K.q [.bool false] (K.z (K.t (K.f (K.s ?_))))))))))))))
  refine K.g (K.q [.pointer (some ⟨p, 0, none⟩), .pointer (some ⟨p, 0, none⟩), .pointer (some ⟨p, 8, none⟩)] ?_)
  refine K.d (.pointer (some ⟨r, 0, none⟩)) ((hS.blk 2 rfl hgp).cell rfl) ?_
  refine K.q [.pointer (some ⟨r, 0, none⟩), .pointer (some ⟨r, 2, none⟩)] ?_
  refine K.d (.int .i64 (lineL (rdStep n t S.rd M).1.pc)) ((hS.blk 0 rfl h_4).cell rfl) ?_
  refine K.xe ((lineL (rdStep n t S.rd M).1.pc) : Int) (0 : Int) (rline_f hb_7 hRg) ?_
  refine K.z (K.t (K.f (K.k (K.t (K.r (K.u ?_))))))
  have e : skStep c n t S M = _ := skS1 hd hm
  rw [show skFirst c S (rdStep n t S.rd M).1 = skRd S (rdStep n t S.rd M).1 from if_neg (by rw [hb_7]; decide)] at e
  refine ⟨.inr rfl, rfl, (.tuple #[]), K.res0 rfl, [gp, g_1, l_2], ?_, hS.pick [2, 0, 1, 3]⟩
  exact ⟨((some ⟨r, 0, none⟩)), (sa), _, _, _, rfl, rfl, by rw [e]; exact dk_ln hgp (((dk_f hd).trans hm).symm), by rw [e]; exact .inr (.inl ⟨hd, (by show ¬ S.mode = 3; omega), r, _, rfl, h_4, k_5⟩), by rw [e]; exact x_6⟩
 ·
  obtain ⟨hRg, hRm⟩ := rdStep_good2 (n := n) (nt := t) hSrd hM
  have hRw := rdWord_l hRg
  have hRw2 := hRw
  unfold isL at hRw2
  refine K.g (K.q [.pointer (some ⟨p, 0, none⟩), .pointer (some ⟨p, 0, none⟩), .pointer (some ⟨p, 8, none⟩)] ?_)
  refine K.d (.pointer (some ⟨r, 0, none⟩)) ((hS.blk 2 rfl hgp).cell rfl) ?_
  refine K.q [.pointer (some ⟨r, 0, none⟩), .pointer (some ⟨r, 2, none⟩)] ?_
  refine K.d (.int .i64 (lineL (rdStep n t S.rd M).1.pc)) ((hS.blk 0 rfl h_4).cell rfl) ?_
  refine K.ye ((lineL (rdStep n t S.rd M).1.pc) : Int) (0 : Int) (rline_t hb_7) ?_
  refine K.q [.bool true, .pointer (some ⟨p, 0, none⟩), .pointer (some ⟨p, 0, none⟩), .pointer (some ⟨p, 8, none⟩)] ?_
  refine K.d (.pointer (some ⟨r, 0, none⟩)) ((hS.blk 2 rfl hgp).cell rfl) ?_
  refine K.q [.pointer (some ⟨r, 0, none⟩), .pointer (some ⟨r, 4, none⟩)] ?_
  refine K.d (.int .u64 (rdWord (rdStep n t S.rd M).1)) ((hS.blk 0 rfl h_4).cell rfl) ?_
  refine K.l (K.OW.gcall hS [] [0, 1, 2, 3] [.int .u64 (rdWord (rdStep n t S.rd M).1)] (rby_ok _ (rdWord (rdStep n t S.rd M).1) (by first | assumption | exact rdWord_w (by assumption) | exact isL.w (by assumption) | exact linkI_w _ _ | (unfold isW; omega))) ?_)
  clear hS; rintro _ _ w ⟨rfl, rfl⟩ hS
  replace hS : K.Sat w0 [g_1, l_2, gp, fr] w := hS
  have hbr_8 := byI_rng (rdWord (rdStep n t S.rd M).1)
  by_cases h_9 : ((byI (rdWord (rdStep n t S.rd M).1)) : Int) ≥ (0 : Int)
  ·
   refine K.y (((byI (rdWord (rdStep n t S.rd M).1)) : Int) ≥ (0 : Int)) h_9 ?_
   refine K.q [.bool true] (K.z (K.t (K.h (K.g (K.q [.pointer (some ⟨p, 0, none⟩)] ?_)))))
   refine K.l (K.OW.gcall hS [2] [0, 1, 3] [.pointer (some ⟨p, 0, none⟩)] (dkBegin_ok _ _ c _ _ _ (skRd S (rdStep n t S.rd M).1) _ hgp hSt hSh) ?_)
   clear hS; rintro _ _ w ⟨g_10, r_11, q_12, rfl, rfl, h_13, k_14⟩ hS
   replace hS : K.Sat w0 [g_10, q_12, g_1, l_2, fr] w := hS
   refine K.z (K.t (K.r (K.u ?_)))
   have e : skStep c n t S M = _ := skS1 hd hm
   rw [show skFirst c S (rdStep n t S.rd M).1 = (skBegin (skRd S (rdStep n t S.rd M).1)) from by unfold skFirst; rw [if_pos hb_7, if_neg (by omega)]] at e
   refine ⟨.inr rfl, rfl, (.tuple #[]), K.res0 rfl, [g_10, q_12, l_2], ?_, hS.pick [0, 1, 3, 4]⟩
   exact ⟨((some ⟨r_11, 0, none⟩)), (sa), _, _, _, rfl, rfl, by rw [e]; exact dk_ln h_13 ((dk_f (S := (skBegin (skRd S (rdStep n t S.rd M).1))) hd).symm), by rw [e]; exact .inr (.inl ⟨hd, (by decide : ¬ (1 : Int) = 3), _, _, rfl, k_14, gtInit⟩), by rw [e]; exact x_6⟩
  ·
   refine K.x (((byI (rdWord (rdStep n t S.rd M).1)) : Int) ≥ (0 : Int)) h_9 ?_
   refine K.q [.bool false] (K.z (K.t (K.f (K.s (K.g (K.q [.pointer (some ⟨p, 0, none⟩), .pointer (some ⟨p, 0, none⟩), .pointer (some ⟨p, 8, none⟩)] ?_))))))
   refine K.d (.pointer (some ⟨r, 0, none⟩)) ((hS.blk 2 rfl hgp).cell rfl) ?_
   refine K.q [.pointer (some ⟨r, 0, none⟩), .pointer (some ⟨r, 2, none⟩)] ?_
   refine K.d (.int .i64 (lineL (rdStep n t S.rd M).1.pc)) ((hS.blk 0 rfl h_4).cell rfl) ?_
   refine K.ye ((lineL (rdStep n t S.rd M).1.pc) : Int) (0 : Int) (rline_t hb_7) ?_
   refine K.z (K.t (K.h ?_))
   refine K.KW.gdrawn [0, 2] hS (by kernel_rfl) ?_
   clear hS; intro w hS
   refine K.p 0 rfl (.pointer (some ⟨p, 0, none⟩)) (hS.pick [0, 2]) ?_
   refine K.p 1 rfl (.pointer (some ⟨p, 0, none⟩)) (hS.pick [0, 2]) ?_
   refine K.p 2 rfl (.pointer (some ⟨p, 0, none⟩)) (hS.pick [0, 2]) ?_
   refine K.p 3 rfl (.pointer (some ⟨p, 8, none⟩)) (hS.pick [0, 2]) ?_
   refine K.o_ 4 rfl (.pointer (some ⟨r, 0, none⟩)) (fun w hS => ((hS.blk 1 rfl hgp).cell rfl)) (hS.pick [0, 2]) ?_
   refine K.p 5 rfl (.pointer (some ⟨r, 0, none⟩)) (hS.pick [0, 2]) ?_
   refine K.p 6 rfl (.pointer (some ⟨r, 4, none⟩)) (hS.pick [0, 2]) ?_
   refine K.o_ 7 rfl (.int .u64 (rdWord (rdStep n t S.rd M).1)) (fun w hS => ((hS.blk 0 rfl h_4).cell rfl)) (hS.pick [0, 2]) ?_
   refine K.b 8 rfl (.pointer (some ⟨p, 0, none⟩)) (hS.pick [0, 2]) ?_
   refine K.b 9 rfl (.pointer (some ⟨p, 0, none⟩)) (hS.pick [0, 2]) ?_
   refine K.b 10 rfl (.pointer (some ⟨p, 8, none⟩)) (hS.pick [0, 2]) ?_
   refine K.c 11 rfl (K.QR.ld1 (v := .pointer (some ⟨r, 0, none⟩)) rfl rfl (by kernel_rfl) ((hS.blk 2 rfl hgp).cell rfl)) (hS.pick [0, 2]) ?_
   refine K.b 12 rfl (.pointer (some ⟨r, 0, none⟩)) (hS.pick [0, 2]) ?_
   refine K.b 13 rfl (.pointer (some ⟨r, 5, none⟩)) (hS.pick [0, 2]) ?_
   refine K.c 14 rfl (K.QR.ld1 (v := .int .i64 (rdWhen (rdStep n t S.rd M).1)) rfl rfl (by kernel_rfl) ((hS.blk 0 rfl h_4).cell rfl)) (hS.pick [0, 2]) ?_
   refine K.DW.l 15 rfl (by kernel_rfl) rfl (K.OW.gcall hS [2] [0, 1, 3] [.pointer (some ⟨p, 0, none⟩), .int .u64 (rdWord (rdStep n t S.rd M).1), .int .i64 (rdWhen (rdStep n t S.rd M).1)] (dkOn_ok _ _ c _ _ _ (skRd S (rdStep n t S.rd M).1) _ hgp hc hSt (rdWord (rdStep n t S.rd M).1) (rdWhen (rdStep n t S.rd M).1) (by first | assumption | exact rdWord_w (by assumption) | exact isL.w (by assumption) | exact linkI_w _ _ | (unfold isW; omega))) ?_)
   clear hS; rintro _ _ w ⟨rfl, (⟨g_15, rfl, k_16, h_17⟩ | ⟨g_18, r_19, q_20, rfl, k_21, h_22, e_23⟩)⟩ hS
   ·
    replace hS : K.Sat w0 [g_15, g_1, l_2, fr] w := hS
    refine ⟨.inr (by kernel_rfl), ?_⟩
    refine K.DW.done (by kernel_rfl) ?_
    refine K.t (K.r (K.u ?_))
    have e : skStep c n t S M = _ := skS1 hd hm
    rw [show skFirst c S (rdStep n t S.rd M).1 = (skOn c (skRd S (rdStep n t S.rd M).1) (rdWord (rdStep n t S.rd M).1) (rdWhen (rdStep n t S.rd M).1)) from by unfold skFirst; rw [if_pos hb_7, if_pos (by omega)]] at e
    refine ⟨.inr rfl, rfl, (.tuple #[]), K.res0 rfl, [g_15, g_1, l_2], ?_, hS.pick [0, 1, 2, 3]⟩
    exact ⟨((some ⟨r, 0, none⟩)), (sa), _, _, _, rfl, rfl, by rw [e]; exact dk_ln h_17 ((dk_t (dkOn_1 k_16)).symm), by rw [e]; exact .inl (dkOn_1 k_16), by rw [e]; exact x_6⟩
   ·
    replace hS : K.Sat w0 [g_18, q_20, g_1, l_2, fr] w := hS
    refine ⟨.inr (by kernel_rfl), ?_⟩
    refine K.DW.done (by kernel_rfl) ?_
    refine K.t (K.r (K.u ?_))
    have e : skStep c n t S M = _ := skS1 hd hm
    rw [show skFirst c S (rdStep n t S.rd M).1 = (skOn c (skRd S (rdStep n t S.rd M).1) (rdWord (rdStep n t S.rd M).1) (rdWhen (rdStep n t S.rd M).1)) from by unfold skFirst; rw [if_pos hb_7, if_pos (by omega)]] at e
    refine ⟨.inr rfl, rfl, (.tuple #[]), K.res0 rfl, [g_18, q_20, l_2], ?_, hS.pick [0, 1, 3, 4]⟩
    exact ⟨((some ⟨r_19, 0, none⟩)), (sa), _, _, _, rfl, rfl, by rw [e]; exact dk_ln h_22 (((dk_f (S := (skOn c (skRd S (rdStep n t S.rd M).1) (rdWord (rdStep n t S.rd M).1) (rdWhen (rdStep n t S.rd M).1))) ((dkOn_2 (S := (skRd S (rdStep n t S.rd M).1)) k_21).1.trans hd)).trans (dkOn_2 k_21).2.1).symm), by rw [e]; exact .inr (.inl ⟨(dkOn_2 k_21).1.trans hd, (by rw [(dkOn_2 k_21).2.1]; decide), _, _, rfl, (by rw [(dkOn_2 k_21).2.2]; exact e_23), (by rw [(dkOn_2 k_21).2.2]; exact gtInit)⟩), by rw [e]; exact x_6⟩
set_option maxHeartbeats 1000000 in
set_option maxRecDepth 100000 in
theorem dkStep_2 (w0 : World) (p pm q n t : Nat) (r : Nat) (gt : Int) (sa : Option Addr) (c : Cfg) (hc : cfgOk c) (S : SkS) (M : MemM) (gp gx l : K.Cs) (hgp : gp = dkPt p c 2 ((some ⟨r, 0, none⟩)) (sa) S) (hgx : gx = rrdPt r S.rd gt) (x : RMemAt l pm q n t M) (hM : M.good) (hS : S.good) (hd : S.done = false) (hm : S.mode = 2) (hgt : gtOk S.rd gt) :
  K.GC Tryz.prog w0 23 #[.pointer (some ⟨p, 0, none⟩), .pointer (some ⟨pm, 0, none⟩)] [gp, gx, l] (fun v post => ∃ ra' sa' gp' g1 l', v = .tuple #[] ∧ post = [gp', g1, l'] ∧ gp' = dkPt p c (dkLn (skStep c n t S M).1) ra' sa' (skStep c n t S M).1 ∧ DkTail (skStep c n t S M).1 ra' sa' g1 ∧ RMemAt l' pm q n t (skStep c n t S M).2) := by
 have hSt := hS.t; have hSh := hS.head; have hSk := hS.key; have hSp := hS.prev; have hSw := hS.word; have hSl := hS.link; have hSc := hS.curr; have hSrd := hS.rd; have hSse := hS.se; have hSf := hS.found hd
 have hSl2 := hSl
 unfold isL at hSl2
 refine K.GC.mk (n := 263) Tryz.func23 rfl rfl [.pointer (some ⟨p, 0, none⟩), .pointer (some ⟨pm, 0, none⟩)] rfl rfl ?_
 intro fr w hS
 replace hS : K.Sat w0 [gp, gx, l, fr] w := hS
 refine K.s (K.s (K.g (K.q [.pointer (some ⟨p, 0, none⟩), .pointer (some ⟨p, 0, none⟩), .pointer (some ⟨p, 7, none⟩)] ?_)))
 refine K.d (.int .i64 2) ((hS.blk 0 rfl hgp).cell rfl) ?_
 refine K.q [.bool false] (K.z (K.t (K.f (K.k (K.t (K.s (K.s (K.g (K.q [.pointer (some ⟨p, 0, none⟩), .pointer (some ⟨p, 0, none⟩), .pointer (some ⟨p, 7, none⟩)] ?_)))))))))
 refine K.d (.int .i64 2) ((hS.blk 0 rfl hgp).cell rfl) ?_
 refine K.q [.bool true] (K.z (K.t (K.h (K.s (K.g (K.q [.pointer (some ⟨p, 0, none⟩), .pointer (some ⟨p, 0, none⟩), .pointer (some ⟨p, 8, none⟩)] ?_))))))
 refine K.d (.pointer (some ⟨r, 0, none⟩)) ((hS.blk 0 rfl hgp).cell rfl) ?_
 refine K.q [.pointer (some ⟨pm, 0, none⟩)] ?_
 refine K.l (K.OW.gcall hS [1, 2] [0, 3] [.pointer (some ⟨r, 0, none⟩), .pointer (some ⟨pm, 0, none⟩)] (rrdStep_ok _ _ _ _ _ _ S.rd M gt _ _ hgx x (by assumption) (by assumption) (by assumption)) ?_)
 clear hS; rintro _ _ w ⟨g_1, l_2, u_3, rfl, rfl, h_4, k_5, x_6⟩ hS
 replace hS : K.Sat w0 [g_1, l_2, gp, fr] w := hS
 refine K.z (K.t (K.s (K.s ?_)))
 cases hb_7 : (rdStep n t S.rd M).1.done
 ·
  obtain ⟨hRg, hRm⟩ := rdStep_good2 (n := n) (nt := t) hSrd hM
  have hRw := rdWord_l hRg
  have hRw2 := hRw
  unfold isL at hRw2
  refine K.g (K.q [.pointer (some ⟨p, 0, none⟩), .pointer (some ⟨p, 0, none⟩), .pointer (some ⟨p, 8, none⟩)] ?_)
  refine K.d (.pointer (some ⟨r, 0, none⟩)) ((hS.blk 2 rfl hgp).cell rfl) ?_
  refine K.q [.pointer (some ⟨r, 0, none⟩), .pointer (some ⟨r, 2, none⟩)] ?_
  refine K.d (.int .i64 (lineL (rdStep n t S.rd M).1.pc)) ((hS.blk 0 rfl h_4).cell rfl) ?_
  refine K.yn ((lineL (rdStep n t S.rd M).1.pc) : Int) (0 : Int) (rline_f hb_7 hRg) ?_
  refine K.z (K.t (K.h (K.r (K.u (K.u ?_)))))
  have e : skStep c n t S M = _ := skS2 hd hm
  rw [show skLinked S (rdStep n t S.rd M).1 = skRd S (rdStep n t S.rd M).1 from if_neg (by rw [hb_7]; decide)] at e
  refine ⟨.inr rfl, rfl, (.tuple #[]), K.res0 rfl, [gp, g_1, l_2], ?_, hS.pick [2, 0, 1, 3]⟩
  exact ⟨((some ⟨r, 0, none⟩)), (sa), _, _, _, rfl, rfl, by rw [e]; exact dk_ln hgp (((dk_f hd).trans hm).symm), by rw [e]; exact .inr (.inl ⟨hd, (by show ¬ S.mode = 3; omega), r, _, rfl, h_4, k_5⟩), by rw [e]; exact x_6⟩
 ·
  obtain ⟨hRg, hRm⟩ := rdStep_good2 (n := n) (nt := t) hSrd hM
  have hRw := rdWord_l hRg
  have hRw2 := hRw
  unfold isL at hRw2
  refine K.g (K.q [.pointer (some ⟨p, 0, none⟩), .pointer (some ⟨p, 0, none⟩), .pointer (some ⟨p, 8, none⟩)] ?_)
  refine K.d (.pointer (some ⟨r, 0, none⟩)) ((hS.blk 2 rfl hgp).cell rfl) ?_
  refine K.q [.pointer (some ⟨r, 0, none⟩), .pointer (some ⟨r, 2, none⟩)] ?_
  refine K.d (.int .i64 (lineL (rdStep n t S.rd M).1.pc)) ((hS.blk 0 rfl h_4).cell rfl) ?_
  refine K.xn ((lineL (rdStep n t S.rd M).1.pc) : Int) (0 : Int) (rline_t hb_7) ?_
  refine K.z (K.t (K.f (K.k (K.t (K.s (K.g (K.q [.pointer (some ⟨p, 0, none⟩), .pointer (some ⟨p, 0, none⟩), .pointer (some ⟨p, 0, none⟩), .pointer (some ⟨p, 8, none⟩)] ?_)))))))
  refine K.d (.pointer (some ⟨r, 0, none⟩)) ((hS.blk 2 rfl hgp).cell rfl) ?_
  refine K.q [.pointer (some ⟨r, 0, none⟩), .pointer (some ⟨r, 4, none⟩)] ?_
  refine K.d (.int .u64 (rdWord (rdStep n t S.rd M).1)) ((hS.blk 0 rfl h_4).cell rfl) ?_
  refine K.q [.pointer (some ⟨p, 0, none⟩), .pointer (some ⟨p, 15, none⟩)] ?_
  refine K.l (K.OW.gst 2 [.int .u64 (rdWord (rdStep n t S.rd M).1)] _ hS hgp ?_)
  clear hS; intro w g_8 hg_9 hS
  replace hS : K.Sat w0 [g_1, l_2, g_8, fr] w := hS
  refine K.z (K.t (K.s (K.g (K.q [.pointer (some ⟨p, 0, none⟩), .pointer (some ⟨p, 0, none⟩), .pointer (some ⟨p, 7, none⟩)] ?_))))
  refine K.l (K.OW.gst 2 [.int .i64 4] _ hS hg_9 ?_)
  clear hS; intro w g_10 hg_11 hS
  replace hS : K.Sat w0 [g_1, l_2, g_10, fr] w := hS
  refine K.z (K.t (K.s (K.s (K.g (K.q [.pointer (some ⟨p, 0, none⟩), .pointer (some ⟨p, 0, none⟩), .pointer (some ⟨p, 15, none⟩)] ?_)))))
  refine K.d (.int .u64 (rdWord (rdStep n t S.rd M).1)) ((hS.blk 2 rfl hg_11).cell rfl) ?_
  refine K.l (K.OW.gcall hS [] [0, 1, 2, 3] [.int .u64 (rdWord (rdStep n t S.rd M).1)] (rby_ok _ (rdWord (rdStep n t S.rd M).1) (by first | assumption | exact rdWord_w (by assumption) | exact isL.w (by assumption) | exact linkI_w _ _ | (unfold isW; omega))) ?_)
  clear hS; rintro _ _ w ⟨rfl, rfl⟩ hS
  replace hS : K.Sat w0 [g_1, l_2, g_10, fr] w := hS
  have hbr_12 := byI_rng (rdWord (rdStep n t S.rd M).1)
  by_cases h_13 : ((byI (rdWord (rdStep n t S.rd M).1)) : Int) ≥ (0 : Int)
  ·
   refine K.y (((byI (rdWord (rdStep n t S.rd M).1)) : Int) ≥ (0 : Int)) h_13 ?_
   refine K.z (K.t (K.h (K.s ?_)))
   refine K.KW.gdrawn [2] hS (by kernel_rfl) ?_
   clear hS; intro w hS
   refine K.p 0 rfl (.pointer (some ⟨p, 0, none⟩)) (hS.pick [2]) ?_
   refine K.p 1 rfl (.pointer (some ⟨p, 0, none⟩)) (hS.pick [2]) ?_
   refine K.p 2 rfl (.pointer (some ⟨p, 0, none⟩)) (hS.pick [2]) ?_
   refine K.p 3 rfl (.pointer (some ⟨p, 4, none⟩)) (hS.pick [2]) ?_
   refine K.o_ 4 rfl (.int .i64 S.t) (fun w hS => ((hS.blk 0 rfl hg_11).cell rfl)) (hS.pick [2]) ?_
   refine K.p 5 rfl (.pointer (some ⟨p, 0, none⟩)) (hS.pick [2]) ?_
   refine K.p 6 rfl (.pointer (some ⟨p, 0, none⟩)) (hS.pick [2]) ?_
   refine K.p 7 rfl (.pointer (some ⟨p, 11, none⟩)) (hS.pick [2]) ?_
   refine K.o_ 8 rfl (.int .i64 S.prev) (fun w hS => ((hS.blk 0 rfl hg_11).cell rfl)) (hS.pick [2]) ?_
   refine K.p 9 rfl (.pointer (some ⟨p, 0, none⟩)) (hS.pick [2]) ?_
   refine K.p 10 rfl (.pointer (some ⟨p, 0, none⟩)) (hS.pick [2]) ?_
   refine K.p 11 rfl (.pointer (some ⟨p, 12, none⟩)) (hS.pick [2]) ?_
   refine K.o_ 12 rfl (.int .u64 S.word) (fun w hS => ((hS.blk 0 rfl hg_11).cell rfl)) (hS.pick [2]) ?_
   refine K.b 13 rfl (.pointer (some ⟨p, 0, none⟩)) (hS.pick [2]) ?_
   refine K.b 14 rfl (.pointer (some ⟨p, 0, none⟩)) (hS.pick [2]) ?_
   refine K.b 15 rfl (.pointer (some ⟨p, 15, none⟩)) (hS.pick [2]) ?_
   refine K.c 16 rfl (K.QR.ld1 (v := .int .u64 (rdWord (rdStep n t S.rd M).1)) rfl rfl (by kernel_rfl) ((hS.blk 2 rfl hg_11).cell rfl)) (hS.pick [2]) ?_
   refine K.c 17 rfl (K.QR.remu64 ((rdWord (rdStep n t S.rd M).1) : Int) 4294967296 (((rdWord (rdStep n t S.rd M).1) : Int) % 4294967296) (by kernel_rfl) (by omega) (by omega)) (hS.pick [2]) ?_
   refine K.DW.l 18 rfl (by kernel_rfl) rfl (K.OW.gcall hS [] [0, 1, 2, 3] [.int .i64 S.t, .int .i64 S.prev, .int .u64 S.word, .int .u64 (((rdWord (rdStep n t S.rd M).1) : Int) % 4294967296)] (newrse_ok _ S.t (by first | omega | assumption) S.prev (by first | omega | assumption) S.word (by first | assumption | exact isL.w (by assumption) | (unfold isW; omega) | exact rdWord_w (by assumption)) (((rdWord (rdStep n t S.rd M).1) : Int) % 4294967296) (by first | assumption | exact isL.w (by assumption) | (unfold isW; omega) | exact rdWord_w (by assumption))) ?_)
   clear hS; rintro _ _ w ⟨p_14, g_15, rfl, rfl, h_16⟩ hS
   replace hS : K.Sat w0 [g_15, g_1, l_2, g_10, fr] w := hS
   refine ⟨.inl (hS.pick [3]), ?_⟩
   refine K.b 19 rfl (.pointer (some ⟨p, 0, none⟩)) (hS.pick [3]) ?_
   refine K.b 20 rfl (.pointer (some ⟨p, 9, none⟩)) (hS.pick [3]) ?_
   refine K.DW.l 21 rfl (by kernel_rfl) rfl (K.OW.gst 3 [.pointer (some ⟨p_14, 0, none⟩)] _ hS hg_11 ?_)
   clear hS; intro w g_17 hg_18 hS
   replace hS : K.Sat w0 [g_15, g_1, l_2, g_17, fr] w := hS
   refine ⟨.inr (by kernel_rfl), ?_⟩
   refine K.DW.done (by kernel_rfl) ?_
   refine K.t (K.g (K.q [.pointer (some ⟨p, 0, none⟩), .pointer (some ⟨p, 0, none⟩), .pointer (some ⟨p, 7, none⟩)] ?_))
   refine K.l (K.OW.gst 3 [.int .i64 3] _ hS hg_18 ?_)
   clear hS; intro w g_19 hg_20 hS
   replace hS : K.Sat w0 [g_15, g_1, l_2, g_19, fr] w := hS
   refine K.z (K.t (K.r (K.u ?_)))
   have e : skStep c n t S M = _ := skS2 hd hm
   rw [show skLinked S (rdStep n t S.rd M).1 = ⟨S.t, S.head, S.key, 3, S.done, S.found, S.prev, S.word, S.came, S.curr, rdWord (rdStep n t S.rd M).1, S.when_, (rdStep n t S.rd M).1, ⟨S.t, S.prev, 0, cleanI (linkI (toI (rdWord (rdStep n t S.rd M).1)) (-1)), -1, cleanI S.word, false, 0⟩⟩ from by unfold skLinked; rw [if_pos hb_7, if_neg (by omega)]] at e
   refine ⟨.inr rfl, rfl, (.tuple #[]), K.res0 rfl, [g_19, g_15, l_2], ?_, hS.pick [3, 0, 2, 4]⟩
   exact ⟨((some ⟨r, 0, none⟩)), ((some ⟨p_14, 0, none⟩)), _, _, _, rfl, rfl, by rw [e]; exact dk_ln hg_20 ((dk_f (S := ⟨S.t, S.head, S.key, 3, S.done, S.found, S.prev, S.word, S.came, S.curr, rdWord (rdStep n t S.rd M).1, S.when_, (rdStep n t S.rd M).1, ⟨S.t, S.prev, 0, cleanI (linkI (toI (rdWord (rdStep n t S.rd M).1)) (-1)), -1, cleanI S.word, false, 0⟩⟩) hd).symm), by rw [e]; exact .inr (.inr ⟨hd, rfl, _, rfl, by show _ = rsePt _ ⟨S.t, S.prev, 0, cleanI (linkI (toI (rdWord (rdStep n t S.rd M).1)) (-1)), -1, cleanI S.word, false, 0⟩; rw [link_none]; exact h_16⟩), by rw [e]; exact x_6⟩
  ·
   refine K.x (((byI (rdWord (rdStep n t S.rd M).1)) : Int) ≥ (0 : Int)) h_13 ?_
   refine K.z (K.t (K.f (K.k (K.t (K.r (K.u ?_))))))
   have e : skStep c n t S M = _ := skS2 hd hm
   rw [show skLinked S (rdStep n t S.rd M).1 = ⟨S.t, S.head, S.key, 4, S.done, S.found, S.prev, S.word, S.came, S.curr, rdWord (rdStep n t S.rd M).1, S.when_, (rdStep n t S.rd M).1, S.se⟩ from by unfold skLinked; rw [if_pos hb_7, if_pos (by omega)]] at e
   refine ⟨.inr rfl, rfl, (.tuple #[]), K.res0 rfl, [g_10, g_1, l_2], ?_, hS.pick [2, 0, 1, 3]⟩
   exact ⟨((some ⟨r, 0, none⟩)), (sa), _, _, _, rfl, rfl, by rw [e]; exact dk_ln hg_11 ((dk_f (S := ⟨S.t, S.head, S.key, 4, S.done, S.found, S.prev, S.word, S.came, S.curr, rdWord (rdStep n t S.rd M).1, S.when_, (rdStep n t S.rd M).1, S.se⟩) hd).symm), by rw [e]; exact .inr (.inl ⟨hd, (by decide : ¬ (4 : Int) = 3), r, _, rfl, h_4, k_5⟩), by rw [e]; exact x_6⟩
set_option maxHeartbeats 1000000 in
set_option maxRecDepth 100000 in
theorem dkStep_3 (w0 : World) (p pm q n t : Nat) (qs : Nat) (ra : Option Addr) (c : Cfg) (hc : cfgOk c) (S : SkS) (M : MemM) (gp gx l : K.Cs) (hgp : gp = dkPt p c 3 (ra) ((some ⟨qs, 0, none⟩)) S) (hgx : gx = rsePt qs S.se) (x : RMemAt l pm q n t M) (hM : M.good) (hS : S.good) (hd : S.done = false) (hm : S.mode = 3) :
  K.GC Tryz.prog w0 23 #[.pointer (some ⟨p, 0, none⟩), .pointer (some ⟨pm, 0, none⟩)] [gp, gx, l] (fun v post => ∃ ra' sa' gp' g1 l', v = .tuple #[] ∧ post = [gp', g1, l'] ∧ gp' = dkPt p c (dkLn (skStep c n t S M).1) ra' sa' (skStep c n t S M).1 ∧ DkTail (skStep c n t S M).1 ra' sa' g1 ∧ RMemAt l' pm q n t (skStep c n t S M).2) := by
 have hSt := hS.t; have hSh := hS.head; have hSk := hS.key; have hSp := hS.prev; have hSw := hS.word; have hSl := hS.link; have hSc := hS.curr; have hSrd := hS.rd; have hSse := hS.se; have hSf := hS.found hd
 have hSl2 := hSl
 unfold isL at hSl2
 refine K.GC.mk (n := 263) Tryz.func23 rfl rfl [.pointer (some ⟨p, 0, none⟩), .pointer (some ⟨pm, 0, none⟩)] rfl rfl ?_
 intro fr w hS
 replace hS : K.Sat w0 [gp, gx, l, fr] w := hS
 refine K.s (K.s (K.g (K.q [.pointer (some ⟨p, 0, none⟩), .pointer (some ⟨p, 0, none⟩), .pointer (some ⟨p, 7, none⟩)] ?_)))
 refine K.d (.int .i64 3) ((hS.blk 0 rfl hgp).cell rfl) ?_
 refine K.q [.bool false] (K.z (K.t (K.f (K.k (K.t (K.s (K.s (K.g (K.q [.pointer (some ⟨p, 0, none⟩), .pointer (some ⟨p, 0, none⟩), .pointer (some ⟨p, 7, none⟩)] ?_)))))))))
 refine K.d (.int .i64 3) ((hS.blk 0 rfl hgp).cell rfl) ?_
 refine K.q [.bool false] (K.z (K.t (K.f (K.k (K.t (K.s (K.s (K.g (K.q [.pointer (some ⟨p, 0, none⟩), .pointer (some ⟨p, 0, none⟩), .pointer (some ⟨p, 7, none⟩)] ?_)))))))))
 refine K.d (.int .i64 3) ((hS.blk 0 rfl hgp).cell rfl) ?_
 refine K.q [.bool true] (K.z (K.t (K.h (K.s (K.g (K.q [.pointer (some ⟨p, 0, none⟩), .pointer (some ⟨p, 0, none⟩), .pointer (some ⟨p, 9, none⟩)] ?_))))))
 refine K.d (.pointer (some ⟨qs, 0, none⟩)) ((hS.blk 0 rfl hgp).cell rfl) ?_
 refine K.q [.pointer (some ⟨pm, 0, none⟩)] ?_
 refine K.l (K.OW.gcall hS [1, 2] [0, 3] [.pointer (some ⟨qs, 0, none⟩), .pointer (some ⟨pm, 0, none⟩)] (rseStep_ok _ _ _ _ _ _ S.se M _ _ hgx x (by assumption) (by assumption)) ?_)
 clear hS; rintro _ _ w ⟨g_1, l_2, rfl, rfl, h_3, x_4⟩ hS
 replace hS : K.Sat w0 [g_1, l_2, gp, fr] w := hS
 refine K.z (K.t (K.s (K.s ?_)))
 cases hb_5 : (seStep n t S.se M).1.done
 ·
  obtain ⟨hQg, hQm⟩ := seStep_good (n := n) (nt := t) hSse hM
  refine K.g (K.q [.pointer (some ⟨p, 0, none⟩), .pointer (some ⟨p, 0, none⟩), .pointer (some ⟨p, 9, none⟩)] ?_)
  refine K.d (.pointer (some ⟨qs, 0, none⟩)) ((hS.blk 2 rfl hgp).cell rfl) ?_
  refine K.q [.pointer (some ⟨qs, 0, none⟩), .pointer (some ⟨qs, 2, none⟩)] ?_
  refine K.d (.int .i64 (lineL (seStep n t S.se M).1.pc)) ((hS.blk 0 rfl h_3).cell rfl) ?_
  refine K.xe ((lineL (seStep n t S.se M).1.pc) : Int) (0 : Int) (sline_f hb_5 hQg) ?_
  refine K.q [.bool false] (K.n_ (K.n_ (K.n_ (K.n_ (K.n_ (K.n_ (K.n_ (K.q [.bool false] (K.z (K.t (K.f (K.s (K.g (K.q [.pointer (some ⟨p, 0, none⟩), .pointer (some ⟨p, 0, none⟩), .pointer (some ⟨p, 9, none⟩)] ?_))))))))))))))
  refine K.d (.pointer (some ⟨qs, 0, none⟩)) ((hS.blk 2 rfl hgp).cell rfl) ?_
  refine K.q [.pointer (some ⟨qs, 0, none⟩), .pointer (some ⟨qs, 2, none⟩)] ?_
  refine K.d (.int .i64 (lineL (seStep n t S.se M).1.pc)) ((hS.blk 0 rfl h_3).cell rfl) ?_
  refine K.xe ((lineL (seStep n t S.se M).1.pc) : Int) (0 : Int) (sline_f hb_5 hQg) ?_
  refine K.z (K.t (K.f (K.k (K.t (K.r (K.u ?_))))))
  have e : skStep c n t S M = _ := skS3 hd hm
  rw [show skUnl c S (seStep n t S.se M).1 = skSe S (seStep n t S.se M).1 from if_neg (by rw [hb_5]; decide)] at e
  refine ⟨.inr rfl, rfl, (.tuple #[]), K.res0 rfl, [gp, g_1, l_2], ?_, hS.pick [2, 0, 1, 3]⟩
  exact ⟨(ra), ((some ⟨qs, 0, none⟩)), _, _, _, rfl, rfl, by rw [e]; exact dk_ln hgp (((dk_f hd).trans hm).symm), by rw [e]; exact .inr (.inr ⟨hd, hm, qs, rfl, h_3⟩), by rw [e]; exact x_4⟩
 ·
  obtain ⟨hQg, hQm⟩ := seStep_good (n := n) (nt := t) hSse hM
  refine K.g (K.q [.pointer (some ⟨p, 0, none⟩), .pointer (some ⟨p, 0, none⟩), .pointer (some ⟨p, 9, none⟩)] ?_)
  refine K.d (.pointer (some ⟨qs, 0, none⟩)) ((hS.blk 2 rfl hgp).cell rfl) ?_
  refine K.q [.pointer (some ⟨qs, 0, none⟩), .pointer (some ⟨qs, 2, none⟩)] ?_
  refine K.d (.int .i64 (lineL (seStep n t S.se M).1.pc)) ((hS.blk 0 rfl h_3).cell rfl) ?_
  refine K.ye ((lineL (seStep n t S.se M).1.pc) : Int) (0 : Int) (sline_t hb_5) ?_
  refine K.q [.bool true, .pointer (some ⟨p, 0, none⟩), .pointer (some ⟨p, 0, none⟩), .pointer (some ⟨p, 9, none⟩)] ?_
  refine K.d (.pointer (some ⟨qs, 0, none⟩)) ((hS.blk 2 rfl hgp).cell rfl) ?_
  refine K.q [.pointer (some ⟨qs, 0, none⟩), .pointer (some ⟨qs, 5, none⟩)] ?_
  refine K.d (.bool ((seStep n t S.se M).1.put)) ((hS.blk 0 rfl h_3).cell rfl) ?_
  cases hb_6 : (seStep n t S.se M).1.put
  ·
   refine K.q [.bool false] (K.z (K.t (K.f (K.s (K.g (K.q [.pointer (some ⟨p, 0, none⟩), .pointer (some ⟨p, 0, none⟩), .pointer (some ⟨p, 9, none⟩)] ?_))))))
   refine K.d (.pointer (some ⟨qs, 0, none⟩)) ((hS.blk 2 rfl hgp).cell rfl) ?_
   refine K.q [.pointer (some ⟨qs, 0, none⟩), .pointer (some ⟨qs, 2, none⟩)] ?_
   refine K.d (.int .i64 (lineL (seStep n t S.se M).1.pc)) ((hS.blk 0 rfl h_3).cell rfl) ?_
   refine K.ye ((lineL (seStep n t S.se M).1.pc) : Int) (0 : Int) (sline_t hb_5) ?_
   refine K.z (K.t (K.h (K.g (K.q [.pointer (some ⟨p, 0, none⟩)] ?_))))
   refine K.l (K.OW.gcall hS [2] [0, 1, 3] [.pointer (some ⟨p, 0, none⟩)] (dkBegin_ok _ _ c _ _ _ (skSe S (seStep n t S.se M).1) _ hgp hSt hSh) ?_)
   clear hS; rintro _ _ w ⟨g_7, r_8, q_9, rfl, rfl, h_10, k_11⟩ hS
   replace hS : K.Sat w0 [g_7, q_9, g_1, l_2, fr] w := hS
   refine K.z (K.t (K.r (K.u ?_)))
   have e : skStep c n t S M = _ := skS3 hd hm
   rw [show skUnl c S (seStep n t S.se M).1 = (skBegin (skSe S (seStep n t S.se M).1)) from by unfold skUnl; rw [if_pos hb_5, if_neg (by rw [hb_6]; decide)]] at e
   refine ⟨.inr rfl, rfl, (.tuple #[]), K.res0 rfl, [g_7, q_9, l_2], ?_, hS.pick [0, 1, 3, 4]⟩
   exact ⟨((some ⟨r_8, 0, none⟩)), ((some ⟨qs, 0, none⟩)), _, _, _, rfl, rfl, by rw [e]; exact dk_ln h_10 ((dk_f (S := (skBegin (skSe S (seStep n t S.se M).1))) hd).symm), by rw [e]; exact .inr (.inl ⟨hd, (by decide : ¬ (1 : Int) = 3), _, _, rfl, k_11, gtInit⟩), by rw [e]; exact x_4⟩
  ·
   refine K.q [.bool true] (K.z (K.t (K.h ?_)))
   refine K.KW.gdrawn [2] hS (by kernel_rfl) ?_
   clear hS; intro w hS
   refine K.p 0 rfl (.pointer (some ⟨p, 0, none⟩)) (hS.pick [2]) ?_
   refine K.p 1 rfl (.pointer (some ⟨p, 0, none⟩)) (hS.pick [2]) ?_
   refine K.p 2 rfl (.pointer (some ⟨p, 0, none⟩)) (hS.pick [2]) ?_
   refine K.p 3 rfl (.pointer (some ⟨p, 15, none⟩)) (hS.pick [2]) ?_
   refine K.o_ 4 rfl (.int .u64 S.link) (fun w hS => ((hS.blk 0 rfl hgp).cell rfl)) (hS.pick [2]) ?_
   refine K.m 5 rfl (fun w hS => K.QR.remu64 (S.link : Int) 4294967296 ((S.link : Int) % 4294967296) (by kernel_rfl) (by omega) (by omega)) (hS.pick [2]) ?_
   refine K.b 6 rfl (.pointer (some ⟨p, 0, none⟩)) (hS.pick [2]) ?_
   refine K.b 7 rfl (.pointer (some ⟨p, 0, none⟩)) (hS.pick [2]) ?_
   refine K.b 8 rfl (.pointer (some ⟨p, 9, none⟩)) (hS.pick [2]) ?_
   refine K.c 9 rfl (K.QR.ld1 (v := .pointer (some ⟨qs, 0, none⟩)) rfl rfl (by kernel_rfl) ((hS.blk 2 rfl hgp).cell rfl)) (hS.pick [2]) ?_
   refine K.b 10 rfl (.pointer (some ⟨qs, 0, none⟩)) (hS.pick [2]) ?_
   refine K.b 11 rfl (.pointer (some ⟨qs, 6, none⟩)) (hS.pick [2]) ?_
   refine K.c 12 rfl (K.QR.ld1 (v := .int .i64 ((seStep n t S.se M).1.when_)) rfl rfl (by kernel_rfl) ((hS.blk 0 rfl h_3).cell rfl)) (hS.pick [2]) ?_
   refine K.DW.l 13 rfl (by kernel_rfl) rfl (K.OW.gcall hS [2] [0, 1, 3] [.pointer (some ⟨p, 0, none⟩), .int .u64 ((S.link : Int) % 4294967296), .int .i64 ((seStep n t S.se M).1.when_)] (dkOn_ok _ _ c _ _ _ (skSe S (seStep n t S.se M).1) _ hgp hc hSt ((S.link : Int) % 4294967296) ((seStep n t S.se M).1.when_) (by first | assumption | exact rdWord_w (by assumption) | exact isL.w (by assumption) | exact linkI_w _ _ | (unfold isW; omega))) ?_)
   clear hS; rintro _ _ w ⟨rfl, (⟨g_12, rfl, k_13, h_14⟩ | ⟨g_15, r_16, q_17, rfl, k_18, h_19, e_20⟩)⟩ hS
   ·
    replace hS : K.Sat w0 [g_12, g_1, l_2, fr] w := hS
    refine ⟨.inr (by kernel_rfl), ?_⟩
    refine K.DW.done (by kernel_rfl) ?_
    refine K.t (K.r (K.u ?_))
    have e : skStep c n t S M = _ := skS3 hd hm
    rw [show skUnl c S (seStep n t S.se M).1 = (skOn c (skSe S (seStep n t S.se M).1) ((S.link : Int) % 4294967296) ((seStep n t S.se M).1.when_)) from by unfold skUnl; rw [if_pos hb_5, if_pos hb_6, link_none]] at e
    refine ⟨.inr rfl, rfl, (.tuple #[]), K.res0 rfl, [g_12, g_1, l_2], ?_, hS.pick [0, 1, 2, 3]⟩
    exact ⟨(ra), ((some ⟨qs, 0, none⟩)), _, _, _, rfl, rfl, by rw [e]; exact dk_ln h_14 ((dk_t (dkOn_1 k_13)).symm), by rw [e]; exact .inl (dkOn_1 k_13), by rw [e]; exact x_4⟩
   ·
    replace hS : K.Sat w0 [g_15, q_17, g_1, l_2, fr] w := hS
    refine ⟨.inr (by kernel_rfl), ?_⟩
    refine K.DW.done (by kernel_rfl) ?_
    refine K.t (K.r (K.u ?_))
    have e : skStep c n t S M = _ := skS3 hd hm
    rw [show skUnl c S (seStep n t S.se M).1 = (skOn c (skSe S (seStep n t S.se M).1) ((S.link : Int) % 4294967296) ((seStep n t S.se M).1.when_)) from by unfold skUnl; rw [if_pos hb_5, if_pos hb_6, link_none]] at e
    refine ⟨.inr rfl, rfl, (.tuple #[]), K.res0 rfl, [g_15, q_17, l_2], ?_, hS.pick [0, 1, 3, 4]⟩
    exact ⟨((some ⟨r_16, 0, none⟩)), ((some ⟨qs, 0, none⟩)), _, _, _, rfl, rfl, by rw [e]; exact dk_ln h_19 (((dk_f (S := (skOn c (skSe S (seStep n t S.se M).1) ((S.link : Int) % 4294967296) ((seStep n t S.se M).1.when_))) ((dkOn_2 (S := (skSe S (seStep n t S.se M).1)) k_18).1.trans hd)).trans (dkOn_2 k_18).2.1).symm), by rw [e]; exact .inr (.inl ⟨(dkOn_2 k_18).1.trans hd, (by rw [(dkOn_2 k_18).2.1]; decide), _, _, rfl, (by rw [(dkOn_2 k_18).2.2]; exact e_20), (by rw [(dkOn_2 k_18).2.2]; exact gtInit)⟩), by rw [e]; exact x_4⟩
set_option maxHeartbeats 1000000 in
set_option maxRecDepth 100000 in
theorem dkStep_4 (w0 : World) (p pm q n t : Nat) (r : Nat) (gt : Int) (sa : Option Addr) (c : Cfg) (hc : cfgOk c) (S : SkS) (M : MemM) (gp gx l : K.Cs) (hgp : gp = dkPt p c 4 ((some ⟨r, 0, none⟩)) (sa) S) (hgx : gx = rrdPt r S.rd gt) (x : RMemAt l pm q n t M) (hM : M.good) (hS : S.good) (hd : S.done = false) (hm : S.mode = 4) (hgt : gtOk S.rd gt) :
  K.GC Tryz.prog w0 23 #[.pointer (some ⟨p, 0, none⟩), .pointer (some ⟨pm, 0, none⟩)] [gp, gx, l] (fun v post => ∃ ra' sa' gp' g1 l', v = .tuple #[] ∧ post = [gp', g1, l'] ∧ gp' = dkPt p c (dkLn (skStep c n t S M).1) ra' sa' (skStep c n t S M).1 ∧ DkTail (skStep c n t S M).1 ra' sa' g1 ∧ RMemAt l' pm q n t (skStep c n t S M).2) := by
 have hSt := hS.t; have hSh := hS.head; have hSk := hS.key; have hSp := hS.prev; have hSw := hS.word; have hSl := hS.link; have hSc := hS.curr; have hSrd := hS.rd; have hSse := hS.se; have hSf := hS.found hd
 have hSl2 := hSl
 unfold isL at hSl2
 refine K.GC.mk (n := 263) Tryz.func23 rfl rfl [.pointer (some ⟨p, 0, none⟩), .pointer (some ⟨pm, 0, none⟩)] rfl rfl ?_
 intro fr w hS
 replace hS : K.Sat w0 [gp, gx, l, fr] w := hS
 refine K.s (K.s (K.g (K.q [.pointer (some ⟨p, 0, none⟩), .pointer (some ⟨p, 0, none⟩), .pointer (some ⟨p, 7, none⟩)] ?_)))
 refine K.d (.int .i64 4) ((hS.blk 0 rfl hgp).cell rfl) ?_
 refine K.q [.bool false] (K.z (K.t (K.f (K.k (K.t (K.s (K.s (K.g (K.q [.pointer (some ⟨p, 0, none⟩), .pointer (some ⟨p, 0, none⟩), .pointer (some ⟨p, 7, none⟩)] ?_)))))))))
 refine K.d (.int .i64 4) ((hS.blk 0 rfl hgp).cell rfl) ?_
 refine K.q [.bool false] (K.z (K.t (K.f (K.k (K.t (K.s (K.s (K.g (K.q [.pointer (some ⟨p, 0, none⟩), .pointer (some ⟨p, 0, none⟩), .pointer (some ⟨p, 7, none⟩)] ?_)))))))))
 refine K.d (.int .i64 4) ((hS.blk 0 rfl hgp).cell rfl) ?_
 refine K.q [.bool false] (K.z (K.t (K.f (K.k (K.t (K.s (K.g (K.q [.pointer (some ⟨p, 0, none⟩), .pointer (some ⟨p, 0, none⟩), .pointer (some ⟨p, 7, none⟩)] ?_))))))))
 refine K.d (.int .i64 4) ((hS.blk 0 rfl hgp).cell rfl) ?_
 refine K.q [.bool true] (K.z (K.t (K.h (K.s ?_))))
 have how : isW (M.accL n S.t (keyS c S.curr)).2.old := (accL_good hM).2
 have how2 := how
 unfold isW at how2
 refine K.KW.gdrawn [0] hS (by kernel_rfl) ?_
 clear hS; intro w hS
 refine K.p 0 rfl (.pointer (some ⟨pm, 0, none⟩)) (hS.pick [0]) ?_
 refine K.p 1 rfl (.pointer (some ⟨p, 0, none⟩)) (hS.pick [0]) ?_
 refine K.p 2 rfl (.pointer (some ⟨p, 0, none⟩)) (hS.pick [0]) ?_
 refine K.p 3 rfl (.pointer (some ⟨p, 4, none⟩)) (hS.pick [0]) ?_
 refine K.o_ 4 rfl (.int .i64 S.t) (fun w hS => ((hS.blk 0 rfl hgp).cell rfl)) (hS.pick [0]) ?_
 refine K.p 5 rfl (.pointer (some ⟨p, 0, none⟩)) (hS.pick [0]) ?_
 refine K.p 6 rfl (.pointer (some ⟨p, 0, none⟩)) (hS.pick [0]) ?_
 refine K.p 7 rfl (.pointer (some ⟨p, 0, none⟩)) (hS.pick [0]) ?_
 refine K.m 8 rfl (fun w hS => K.QR.ldN [.int .i64 c.th, .int .i64 c.sl, .int .i64 c.lo, .int .i64 c.bu] rfl rfl (by kernel_rfl) (by kernel_rfl) (K.cells (K.cl ((hS.blk 0 rfl hgp).cell rfl) (K.cl ((hS.blk 0 rfl hgp).cell rfl) (K.cl ((hS.blk 0 rfl hgp).cell rfl) (K.cl ((hS.blk 0 rfl hgp).cell rfl) K.cl0)))))) (hS.pick [0]) ?_
 refine K.b 9 rfl (.pointer (some ⟨p, 0, none⟩)) (hS.pick [0]) ?_
 refine K.b 10 rfl (.pointer (some ⟨p, 0, none⟩)) (hS.pick [0]) ?_
 refine K.b 11 rfl (.pointer (some ⟨p, 14, none⟩)) (hS.pick [0]) ?_
 refine K.c 12 rfl (K.QR.ld1 (v := .int .i64 S.curr) rfl rfl (by kernel_rfl) ((hS.blk 0 rfl hgp).cell rfl)) (hS.pick [0]) ?_
 refine K.c 13 rfl (K.QR.bd [(0, .int .i64 10), (1, .int .i64 S.curr)] [.int .i64 10, .int .i64 S.curr, .int .i64 0] rfl rfl (by kernel_rfl)) (hS.pick [0]) ?_
 refine K.DW.l 14 rfl (by kernel_rfl) rfl (K.OW.gcall hS [] [0, 1, 2, 3] [.agg #[.int .i64 c.th, .int .i64 c.sl, .int .i64 c.lo, .int .i64 c.bu], .agg #[.int .i64 10, .int .i64 S.curr, .int .i64 0]] (rkey_ok _ c S.curr (by assumption)) ?_)
 clear hS; rintro _ _ w ⟨rfl, rfl⟩ hS
 replace hS : K.Sat w0 [gp, gx, l, fr] w := hS
 have hi_1 : isInt (keyS c S.curr) := key_int (by assumption) _
 refine ⟨.inl (hS.pick [0]), ?_⟩
 refine K.DW.l 15 rfl (by kernel_rfl) rfl (K.OW.gcall hS [2] [0, 1, 3] [.pointer (some ⟨pm, 0, none⟩), .int .i64 1, .int .i64 S.t, .int .i64 (keyS c S.curr), .int .u64 0, .int .u64 0] (rmDo1_ok _ _ _ _ _ _ _ x S.t (keyS c S.curr) 0 0 (by omega) (by omega)) ?_)
 clear hS; rintro _ _ w ⟨l_2, rfl, rfl, x_3⟩ hS
 replace hS : K.Sat w0 [l_2, gp, gx, fr] w := hS
 refine ⟨.inl (hS.pick [1]), ?_⟩
 refine K.b 16 rfl (.int .u64 ((M.accL n S.t (keyS c S.curr)).2.old)) (hS.pick [1]) ?_
 refine K.c 17 rfl (K.QR.remu64 ((M.accL n S.t (keyS c S.curr)).2.old : Int) 4294967296 (((M.accL n S.t (keyS c S.curr)).2.old : Int) % 4294967296) (by kernel_rfl) (by omega) (by omega)) (hS.pick [1]) ?_
 refine K.c 18 rfl (K.QR.nice (v := .int .u32 (IntKind.u32.wrap (((M.accL n S.t (keyS c S.curr)).2.old : Int) % 4294967296))) (by kernel_rfl) (congrArg (Value.int .u32) (IntWalk.u32_in _ (by omega)))) (hS.pick [1]) ?_
 refine K.b 19 rfl (.int .u32 (((M.accL n S.t (keyS c S.curr)).2.old : Int) % 4294967296)) (hS.pick [1]) ?_
 refine K.DW.done (by kernel_rfl) ?_
 refine K.t (K.s (K.s (K.g (K.q [.int .u32 (((M.accL n S.t (keyS c S.curr)).2.old : Int) % 4294967296), .pointer (some ⟨p, 0, none⟩), .pointer (some ⟨p, 0, none⟩), .pointer (some ⟨p, 6, none⟩)] ?_))))
 refine K.d (.int .u32 S.key) ((hS.blk 1 rfl hgp).cell rfl) ?_
 by_cases h_4 : (((M.accL n S.t (keyS c S.curr)).2.old : Int) % 4294967296 : Int) < (S.key : Int)
 ·
  refine K.y ((((M.accL n S.t (keyS c S.curr)).2.old : Int) % 4294967296 : Int) < (S.key : Int)) h_4 ?_
  refine K.z (K.t (K.h (K.s ?_)))
  refine K.KW.gdrawn [1] hS (by kernel_rfl) ?_
  clear hS; intro w hS
  refine K.p 0 rfl (.pointer (some ⟨p, 0, none⟩)) (hS.pick [1]) ?_
  refine K.p 1 rfl (.pointer (some ⟨p, 0, none⟩)) (hS.pick [1]) ?_
  refine K.p 2 rfl (.pointer (some ⟨p, 0, none⟩)) (hS.pick [1]) ?_
  refine K.p 3 rfl (.pointer (some ⟨p, 0, none⟩)) (hS.pick [1]) ?_
  refine K.m 4 rfl (fun w hS => K.QR.ldN [.int .i64 c.th, .int .i64 c.sl, .int .i64 c.lo, .int .i64 c.bu] rfl rfl (by kernel_rfl) (by kernel_rfl) (K.cells (K.cl ((hS.blk 0 rfl hgp).cell rfl) (K.cl ((hS.blk 0 rfl hgp).cell rfl) (K.cl ((hS.blk 0 rfl hgp).cell rfl) (K.cl ((hS.blk 0 rfl hgp).cell rfl) K.cl0)))))) (hS.pick [1]) ?_
  refine K.b 5 rfl (.pointer (some ⟨p, 0, none⟩)) (hS.pick [1]) ?_
  refine K.b 6 rfl (.pointer (some ⟨p, 0, none⟩)) (hS.pick [1]) ?_
  refine K.b 7 rfl (.pointer (some ⟨p, 14, none⟩)) (hS.pick [1]) ?_
  refine K.c 8 rfl (K.QR.ld1 (v := .int .i64 S.curr) rfl rfl (by kernel_rfl) ((hS.blk 1 rfl hgp).cell rfl)) (hS.pick [1]) ?_
  refine K.DW.l 9 rfl (by kernel_rfl) rfl (K.OW.gcall hS [] [0, 1, 2, 3] [.agg #[.int .i64 c.th, .int .i64 c.sl, .int .i64 c.lo, .int .i64 c.bu], .int .i64 S.curr] (rnext_ok _ c (by assumption) S.curr) ?_)
  clear hS; rintro _ _ w ⟨rfl, rfl⟩ hS
  replace hS : K.Sat w0 [l_2, gp, gx, fr] w := hS
  have hi_5 : isInt (nextS c S.curr) := next_int (by assumption) _
  refine ⟨.inl (hS.pick [1]), ?_⟩
  refine K.b 10 rfl (.pointer (some ⟨p, 0, none⟩)) (hS.pick [1]) ?_
  refine K.b 11 rfl (.pointer (some ⟨p, 11, none⟩)) (hS.pick [1]) ?_
  refine K.DW.l 12 rfl (by kernel_rfl) rfl (K.OW.gst 1 [.int .i64 (nextS c S.curr)] _ hS hgp ?_)
  clear hS; intro w g_6 hg_7 hS
  replace hS : K.Sat w0 [l_2, g_6, gx, fr] w := hS
  refine ⟨.inr (by kernel_rfl), ?_⟩
  refine K.DW.done (by kernel_rfl) ?_
  refine K.t (K.s ?_)
  refine K.KW.gdrawn [1] hS (by kernel_rfl) ?_
  clear hS; intro w hS
  refine K.p 0 rfl (.pointer (some ⟨p, 0, none⟩)) (hS.pick [1]) ?_
  refine K.p 1 rfl (.pointer (some ⟨p, 0, none⟩)) (hS.pick [1]) ?_
  refine K.p 2 rfl (.pointer (some ⟨p, 0, none⟩)) (hS.pick [1]) ?_
  refine K.p 3 rfl (.pointer (some ⟨p, 15, none⟩)) (hS.pick [1]) ?_
  refine K.o_ 4 rfl (.int .u64 S.link) (fun w hS => ((hS.blk 0 rfl hg_7).cell rfl)) (hS.pick [1]) ?_
  refine K.b 5 rfl (.pointer (some ⟨p, 0, none⟩)) (hS.pick [1]) ?_
  refine K.b 6 rfl (.pointer (some ⟨p, 0, none⟩)) (hS.pick [1]) ?_
  refine K.b 7 rfl (.pointer (some ⟨p, 8, none⟩)) (hS.pick [1]) ?_
  refine K.c 8 rfl (K.QR.ld1 (v := .pointer (some ⟨r, 0, none⟩)) rfl rfl (by kernel_rfl) ((hS.blk 1 rfl hg_7).cell rfl)) (hS.pick [1]) ?_
  refine K.b 9 rfl (.pointer (some ⟨r, 0, none⟩)) (hS.pick [1]) ?_
  refine K.b 10 rfl (.pointer (some ⟨r, 5, none⟩)) (hS.pick [1]) ?_
  refine K.c 11 rfl (K.QR.ld1 (v := .int .i64 (rdWhen S.rd)) rfl rfl (by kernel_rfl) ((hS.blk 2 rfl hgx).cell rfl)) (hS.pick [1]) ?_
  refine K.DW.l 12 rfl (by kernel_rfl) rfl (K.OW.gcall hS [1] [0, 2, 3] [.pointer (some ⟨p, 0, none⟩), .int .u64 S.link, .int .i64 (rdWhen S.rd)] (dkOn_ok _ _ c _ _ _ (skPrev S (nextS c S.curr)) _ hg_7 hc hSt S.link (rdWhen S.rd) (by first | assumption | exact rdWord_w (by assumption) | exact isL.w (by assumption) | exact linkI_w _ _ | (unfold isW; omega))) ?_)
  clear hS; rintro _ _ w ⟨rfl, (⟨g_8, rfl, k_9, h_10⟩ | ⟨g_11, r_12, q_13, rfl, k_14, h_15, e_16⟩)⟩ hS
  ·
   replace hS : K.Sat w0 [g_8, l_2, gx, fr] w := hS
   refine ⟨.inr (by kernel_rfl), ?_⟩
   refine K.DW.done (by kernel_rfl) ?_
   refine K.t (K.r (K.u ?_))
   have e : skStep c n t S M = _ := skS4 hd hm
   rw [show skKeyed c S ((M.accL n S.t (keyS c S.curr)).2.old % 4294967296) = (skOn c (skPrev S (nextS c S.curr)) S.link (rdWhen S.rd)) from by unfold skKeyed; rw [if_pos h_4]] at e
   refine ⟨.inr rfl, rfl, (.tuple #[]), K.res0 rfl, [g_8, gx, l_2], ?_, hS.pick [0, 2, 1, 3]⟩
   exact ⟨((some ⟨r, 0, none⟩)), (sa), _, _, _, rfl, rfl, by rw [e]; exact dk_ln h_10 ((dk_t (dkOn_1 k_9)).symm), by rw [e]; exact .inl (dkOn_1 k_9), by rw [e]; exact x_3⟩
  ·
   replace hS : K.Sat w0 [g_11, q_13, l_2, gx, fr] w := hS
   refine ⟨.inr (by kernel_rfl), ?_⟩
   refine K.DW.done (by kernel_rfl) ?_
   refine K.t (K.r (K.u ?_))
   have e : skStep c n t S M = _ := skS4 hd hm
   rw [show skKeyed c S ((M.accL n S.t (keyS c S.curr)).2.old % 4294967296) = (skOn c (skPrev S (nextS c S.curr)) S.link (rdWhen S.rd)) from by unfold skKeyed; rw [if_pos h_4]] at e
   refine ⟨.inr rfl, rfl, (.tuple #[]), K.res0 rfl, [g_11, q_13, l_2], ?_, hS.pick [0, 1, 2, 4]⟩
   exact ⟨((some ⟨r_12, 0, none⟩)), (sa), _, _, _, rfl, rfl, by rw [e]; exact dk_ln h_15 (((dk_f (S := (skOn c (skPrev S (nextS c S.curr)) S.link (rdWhen S.rd))) ((dkOn_2 (S := (skPrev S (nextS c S.curr))) k_14).1.trans hd)).trans (dkOn_2 k_14).2.1).symm), by rw [e]; exact .inr (.inl ⟨(dkOn_2 k_14).1.trans hd, (by rw [(dkOn_2 k_14).2.1]; decide), _, _, rfl, (by rw [(dkOn_2 k_14).2.2]; exact e_16), (by rw [(dkOn_2 k_14).2.2]; exact gtInit)⟩), by rw [e]; exact x_3⟩
 ·
  refine K.x ((((M.accL n S.t (keyS c S.curr)).2.old : Int) % 4294967296 : Int) < (S.key : Int)) h_4 ?_
  refine K.z (K.t (K.f (K.k (K.t (K.s (K.g (K.q [.pointer (some ⟨p, 0, none⟩), .int .u32 (((M.accL n S.t (keyS c S.curr)).2.old : Int) % 4294967296), .pointer (some ⟨p, 0, none⟩), .pointer (some ⟨p, 0, none⟩), .pointer (some ⟨p, 6, none⟩)] ?_)))))))
  refine K.d (.int .u32 S.key) ((hS.blk 1 rfl hgp).cell rfl) ?_
  by_cases h_17 : (((M.accL n S.t (keyS c S.curr)).2.old : Int) % 4294967296 : Int) = (S.key : Int)
  ·
   refine K.ye (((M.accL n S.t (keyS c S.curr)).2.old : Int) % 4294967296 : Int) (S.key : Int) h_17 ?_
   refine K.q [.pointer (some ⟨p, 0, none⟩), .pointer (some ⟨p, 10, none⟩)] ?_
   refine K.l (K.OW.gst 1 [.bool true] _ hS hgp ?_)
   clear hS; intro w g_18 hg_19 hS
   replace hS : K.Sat w0 [l_2, g_18, gx, fr] w := hS
   refine K.z (K.t (K.s (K.g (K.q [.pointer (some ⟨p, 0, none⟩), .pointer (some ⟨p, 0, none⟩), .pointer (some ⟨p, 0, none⟩), .pointer (some ⟨p, 13, none⟩)] ?_))))
   refine K.d (.int .i64 S.came) ((hS.blk 1 rfl hg_19).cell rfl) ?_
   refine K.q [.pointer (some ⟨p, 0, none⟩), .pointer (some ⟨p, 16, none⟩)] ?_
   refine K.l (K.OW.gst 1 [.int .i64 S.came] _ hS hg_19 ?_)
   clear hS; intro w g_20 hg_21 hS
   replace hS : K.Sat w0 [l_2, g_20, gx, fr] w := hS
   refine K.z (K.t (K.s (K.s (K.g (K.q [.pointer (some ⟨p, 0, none⟩), .pointer (some ⟨p, 0, none⟩), .pointer (some ⟨p, 10, none⟩)] ?_)))))
   refine K.d (.bool true) ((hS.blk 1 rfl hg_21).cell rfl) ?_
   refine K.z (K.t (K.h (K.g (K.q [.pointer (some ⟨p, 0, none⟩), .pointer (some ⟨p, 0, none⟩), .pointer (some ⟨p, 0, none⟩), .pointer (some ⟨p, 8, none⟩)] ?_))))
   refine K.d (.pointer (some ⟨r, 0, none⟩)) ((hS.blk 1 rfl hg_21).cell rfl) ?_
   refine K.q [.pointer (some ⟨r, 0, none⟩), .pointer (some ⟨r, 5, none⟩)] ?_
   refine K.d (.int .i64 (rdWhen S.rd)) ((hS.blk 2 rfl hgx).cell rfl) ?_
   refine K.q [.pointer (some ⟨p, 0, none⟩), .pointer (some ⟨p, 16, none⟩)] ?_
   refine K.l (K.OW.gst 1 [.int .i64 (rdWhen S.rd)] _ hS hg_21 ?_)
   clear hS; intro w g_22 hg_23 hS
   replace hS : K.Sat w0 [l_2, g_22, gx, fr] w := hS
   refine K.z (K.t (K.g (K.q [.pointer (some ⟨p, 0, none⟩), .pointer (some ⟨p, 0, none⟩), .pointer (some ⟨p, 7, none⟩)] ?_)))
   refine K.l (K.OW.gst 1 [.int .i64 0] _ hS hg_23 ?_)
   clear hS; intro w g_24 hg_25 hS
   replace hS : K.Sat w0 [l_2, g_24, gx, fr] w := hS
   refine K.z ?_
   have e : skStep c n t S M = _ := skS4 hd hm
   rw [show skKeyed c S ((M.accL n S.t (keyS c S.curr)).2.old % 4294967296) = ⟨S.t, S.head, S.key, S.mode, true, true, S.prev, S.word, S.came, S.curr, S.link, rdWhen S.rd, S.rd, S.se⟩ from by unfold skKeyed; rw [if_neg h_4, if_pos h_17]] at e
   refine ⟨.inl rfl, rfl, (.tuple #[]), K.res0 rfl, [g_24, gx, l_2], ?_, hS.pick [1, 2, 0, 3]⟩
   exact ⟨((some ⟨r, 0, none⟩)), (sa), _, _, _, rfl, rfl, by rw [e]; exact dk_ln hg_25 ((dk_t (S := ⟨S.t, S.head, S.key, S.mode, true, true, S.prev, S.word, S.came, S.curr, S.link, rdWhen S.rd, S.rd, S.se⟩) rfl).symm), by rw [e]; exact .inl rfl, by rw [e]; exact x_3⟩
  ·
   refine K.xe (((M.accL n S.t (keyS c S.curr)).2.old : Int) % 4294967296 : Int) (S.key : Int) h_17 ?_
   refine K.q [.pointer (some ⟨p, 0, none⟩), .pointer (some ⟨p, 10, none⟩)] ?_
   refine K.l (K.OW.gst 1 [.bool false] _ hS hgp ?_)
   clear hS; intro w g_26 hg_27 hS
   replace hS : K.Sat w0 [l_2, g_26, gx, fr] w := hS
   refine K.z (K.t (K.s (K.g (K.q [.pointer (some ⟨p, 0, none⟩), .pointer (some ⟨p, 0, none⟩), .pointer (some ⟨p, 0, none⟩), .pointer (some ⟨p, 13, none⟩)] ?_))))
   refine K.d (.int .i64 S.came) ((hS.blk 1 rfl hg_27).cell rfl) ?_
   refine K.q [.pointer (some ⟨p, 0, none⟩), .pointer (some ⟨p, 16, none⟩)] ?_
   refine K.l (K.OW.gst 1 [.int .i64 S.came] _ hS hg_27 ?_)
   clear hS; intro w g_28 hg_29 hS
   replace hS : K.Sat w0 [l_2, g_28, gx, fr] w := hS
   refine K.z (K.t (K.s (K.s (K.g (K.q [.pointer (some ⟨p, 0, none⟩), .pointer (some ⟨p, 0, none⟩), .pointer (some ⟨p, 10, none⟩)] ?_)))))
   refine K.d (.bool false) ((hS.blk 1 rfl hg_29).cell rfl) ?_
   refine K.z (K.t (K.f (K.k (K.t (K.g (K.q [.pointer (some ⟨p, 0, none⟩), .pointer (some ⟨p, 0, none⟩), .pointer (some ⟨p, 7, none⟩)] ?_))))))
   refine K.l (K.OW.gst 1 [.int .i64 0] _ hS hg_29 ?_)
   clear hS; intro w g_30 hg_31 hS
   replace hS : K.Sat w0 [l_2, g_30, gx, fr] w := hS
   refine K.z ?_
   have e : skStep c n t S M = _ := skS4 hd hm
   rw [show skKeyed c S ((M.accL n S.t (keyS c S.curr)).2.old % 4294967296) = ⟨S.t, S.head, S.key, S.mode, true, false, S.prev, S.word, S.came, S.curr, S.link, S.came, S.rd, S.se⟩ from by unfold skKeyed; rw [if_neg h_4, if_neg h_17]] at e
   refine ⟨.inl rfl, rfl, (.tuple #[]), K.res0 rfl, [g_30, gx, l_2], ?_, hS.pick [1, 2, 0, 3]⟩
   exact ⟨((some ⟨r, 0, none⟩)), (sa), _, _, _, rfl, rfl, by rw [e]; exact dk_ln hg_31 ((dk_t (S := ⟨S.t, S.head, S.key, S.mode, true, false, S.prev, S.word, S.came, S.curr, S.link, S.came, S.rd, S.se⟩) rfl).symm), by rw [e]; exact .inl rfl, by rw [e]; exact x_3⟩
set_option maxHeartbeats 1000000 in
set_option maxRecDepth 100000 in
theorem dkStep_0 (w0 : World) (p pm : Nat) (c : Cfg) (ra sa : Option Addr) (S : SkS) (gp : K.Cs) (hgp : gp = dkPt p c 0 ra sa S) :
  K.GC Tryz.prog w0 23 #[.pointer (some ⟨p, 0, none⟩), .pointer (some ⟨pm, 0, none⟩)] [gp] (fun v post => v = .tuple #[] ∧ post = [gp]) := by
 refine K.GC.mk (n := 263) Tryz.func23 rfl rfl [.pointer (some ⟨p, 0, none⟩), .pointer (some ⟨pm, 0, none⟩)] rfl rfl ?_
 intro fr w hS
 replace hS : K.Sat w0 [gp, fr] w := hS
 refine K.s (K.s (K.g (K.q [.pointer (some ⟨p, 0, none⟩), .pointer (some ⟨p, 0, none⟩), .pointer (some ⟨p, 7, none⟩)] ?_)))
 refine K.d (.int .i64 0) ((hS.blk 0 rfl hgp).cell rfl) ?_
 refine K.q [.bool false] (K.z (K.t (K.f (K.k (K.t (K.s (K.s (K.g (K.q [.pointer (some ⟨p, 0, none⟩), .pointer (some ⟨p, 0, none⟩), .pointer (some ⟨p, 7, none⟩)] ?_)))))))))
 refine K.d (.int .i64 0) ((hS.blk 0 rfl hgp).cell rfl) ?_
 refine K.q [.bool false] (K.z (K.t (K.f (K.k (K.t (K.s (K.s (K.g (K.q [.pointer (some ⟨p, 0, none⟩), .pointer (some ⟨p, 0, none⟩), .pointer (some ⟨p, 7, none⟩)] ?_)))))))))
 refine K.d (.int .i64 0) ((hS.blk 0 rfl hgp).cell rfl) ?_
 refine K.q [.bool false] (K.z (K.t (K.f (K.k (K.t (K.s (K.g (K.q [.pointer (some ⟨p, 0, none⟩), .pointer (some ⟨p, 0, none⟩), .pointer (some ⟨p, 7, none⟩)] ?_))))))))
 refine K.d (.int .i64 0) ((hS.blk 0 rfl hgp).cell rfl) ?_
 refine K.q [.bool false] (K.z (K.t (K.f (K.k ?_))))
 refine ⟨.inl rfl, rfl, (.tuple #[]), K.res0 rfl, [gp], ?_, hS.pick [0, 1]⟩
 exact ⟨rfl, rfl⟩
theorem dkStep_ok (w0 : World) (p pm q n t : Nat) (c : Cfg) (hc : cfgOk c) (ra sa : Option Addr) (S : SkS) (M : MemM) (gp g1 l : K.Cs) (hgp : gp = dkPt p c (dkLn S) ra sa S) (ht : DkTail S ra sa g1) (x : RMemAt l pm q n t M) (hM : M.good) (hS : S.good) :
  K.GC Tryz.prog w0 23 #[.pointer (some ⟨p, 0, none⟩), .pointer (some ⟨pm, 0, none⟩)] [gp, g1, l] (fun v post => ∃ ra' sa' gp' g1 l', v = .tuple #[] ∧ post = [gp', g1, l'] ∧ gp' = dkPt p c (dkLn (skStep c n t S M).1) ra' sa' (skStep c n t S M).1 ∧ DkTail (skStep c n t S M).1 ra' sa' g1 ∧ RMemAt l' pm q n t (skStep c n t S M).2) := by
 rcases ht with hd | ⟨hd, hm, r, gt, rfl, hg, hgt⟩ | ⟨hd, hm, r, rfl, hg⟩
 ·intro fr w hs
  refine K.KC.mono (dkStep_0 w0 p pm c ra sa S gp (by rw [← dk_t hd]; exact hgp) ([g1, l, fr].flatten) w (hs.of (by simp))) ?_
  rintro v w' ⟨post, ⟨rfl, rfl⟩, hs2⟩
  have e : skStep c n t S M = (S, M) := by unfold skStep; rw [if_pos hd]
  exact ⟨[gp, g1, l], ⟨ra, sa, gp, g1, l, rfl, rfl, by rw [e]; exact hgp, by rw [e]; exact .inl hd, by rw [e]; exact x⟩, hs2.of (by simp)⟩
 ·rw [dk_f hd] at hgp
  rcases hS.mode with h1 | h1 | h1 | h1
  ·exact dkStep_1 w0 p pm q n t r gt sa c hc S M gp g1 l (by rw [h1] at hgp; exact hgp) hg x hM hS hd h1 hgt
  ·exact dkStep_2 w0 p pm q n t r gt sa c hc S M gp g1 l (by rw [h1] at hgp; exact hgp) hg x hM hS hd h1 hgt
  ·exact absurd h1 hm
  ·exact dkStep_4 w0 p pm q n t r gt sa c hc S M gp g1 l (by rw [h1] at hgp; exact hgp) hg x hM hS hd h1 hgt
 ·exact dkStep_3 w0 p pm q n t r ra c hc S M gp g1 l (by rw [dk_f hd, hm] at hgp; exact hgp) hg x hM hS hd hm
theorem dk_nz {S : SkS} (h : S.done = false) (hS : S.good) : ¬ dkLn S = 0 := by rw [dk_f h]; have := hS.mode; omega
set_option maxHeartbeats 1000000 in
set_option maxRecDepth 100000 in
theorem newdk_ok (w0 : World) (c : Cfg) (tt hh kk : Int) (htt : isInt tt) (hhh : isInt hh) :
  K.GC Tryz.prog w0 22 #[.agg #[.int .i64 c.th, .int .i64 c.sl, .int .i64 c.lo, .int .i64 c.bu], .int .i64 tt, .int .i64 hh, .int .u32 kk] [] (fun v post => ∃ p gp g1, v = .pointer (some ⟨p, 0, none⟩) ∧ post = [gp, g1] ∧ ∃ ra sa, True ∧ gp = dkPt p c 1 ra sa ⟨tt, hh, kk, 1, false, false, hh, 0, 0, 0, 0, 0, ⟨tt, hh, 0, 0, -1⟩, ⟨0, 0, 0, 0, -1, 0, false, 0⟩⟩ ∧ DkTail ⟨tt, hh, kk, 1, false, false, hh, 0, 0, 0, 0, 0, ⟨tt, hh, 0, 0, -1⟩, ⟨0, 0, 0, 0, -1, 0, false, 0⟩⟩ ra sa g1) := by
 refine K.GC.mk (n := 19) Tryz.func22 rfl rfl [.agg #[.int .i64 c.th, .int .i64 c.sl, .int .i64 c.lo, .int .i64 c.bu], .int .i64 tt, .int .i64 hh, .int .u32 kk] rfl rfl ?_
 intro fr w hS
 replace hS : K.Sat w0 [fr] w := hS
 refine K.s (K.g ?_)
 refine K.l (K.OW.gnew 23 [.int .i64 c.th, .int .i64 c.sl, .int .i64 c.lo, .int .i64 c.bu] hS ?_)
 clear hS; intro w r_1 g_2 hg_3 hS
 refine K.q [.pointer none] (K.z (K.t (K.s (K.g ?_))))
 refine K.a (K.QR.ldN [.int .i64 c.th, .int .i64 c.sl, .int .i64 c.lo, .int .i64 c.bu] rfl rfl (by kernel_rfl) (by kernel_rfl) (K.cells (K.cl ((hS.blk 0 rfl hg_3).cell rfl) (K.cl ((hS.blk 0 rfl hg_3).cell rfl) (K.cl ((hS.blk 0 rfl hg_3).cell rfl) (K.cl ((hS.blk 0 rfl hg_3).cell rfl) K.cl0)))))) ?_
 refine K.q [.int .i64 tt, .int .i64 hh, .int .u32 kk] ?_
 refine K.a (K.QR.bd [(0, .agg #[.int .i64 c.th, .int .i64 c.sl, .int .i64 c.lo, .int .i64 c.bu]), (1, .int .i64 tt), (2, .int .i64 hh), (3, .int .u32 kk)] [.int .i64 c.th, .int .i64 c.sl, .int .i64 c.lo, .int .i64 c.bu, .int .i64 tt, .int .i64 hh, .int .u32 kk, .int .i64 0, .pointer none, .pointer none, .bool false, .int .i64 0, .int .u64 0, .int .i64 0, .int .i64 0, .int .u64 0, .int .i64 0] rfl rfl (by kernel_rfl)) ?_
 refine K.l (K.OW.gnew 66 [.int .i64 c.th, .int .i64 c.sl, .int .i64 c.lo, .int .i64 c.bu, .int .i64 tt, .int .i64 hh, .int .u32 kk, .int .i64 0, .pointer none, .pointer none, .bool false, .int .i64 0, .int .u64 0, .int .i64 0, .int .i64 0, .int .u64 0, .int .i64 0] hS ?_)
 clear hS; intro w r_4 g_5 hg_6 hS
 refine K.q [.pointer (some ⟨r_4, 0, none⟩)] (K.z (K.t (K.s ?_)))
 have hd : (⟨tt, hh, kk, 0, false, false, 0, 0, 0, 0, 0, 0, ⟨0, 0, 0, 0, 0⟩, ⟨0, 0, 0, 0, -1, 0, false, 0⟩⟩ : SkS).done = false := rfl
 have hSt : isInt (⟨tt, hh, kk, 0, false, false, 0, 0, 0, 0, 0, 0, ⟨0, 0, 0, 0, 0⟩, ⟨0, 0, 0, 0, -1, 0, false, 0⟩⟩ : SkS).t := htt
 have hSh : isInt (⟨tt, hh, kk, 0, false, false, 0, 0, 0, 0, 0, 0, ⟨0, 0, 0, 0, 0⟩, ⟨0, 0, 0, 0, -1, 0, false, 0⟩⟩ : SkS).head := hhh
 have hgi : g_5 = dkPt r_4 c 0 none none (⟨tt, hh, kk, 0, false, false, 0, 0, 0, 0, 0, 0, ⟨0, 0, 0, 0, 0⟩, ⟨0, 0, 0, 0, -1, 0, false, 0⟩⟩ : SkS) := hg_6
 refine K.g (K.q [.pointer (some ⟨r_4, 0, none⟩)] ?_)
 refine K.l (K.OW.gcall hS [0] [1, 2] [.pointer (some ⟨r_4, 0, none⟩)] (dkBegin_ok _ _ c _ _ _ (⟨tt, hh, kk, 0, false, false, 0, 0, 0, 0, 0, 0, ⟨0, 0, 0, 0, 0⟩, ⟨0, 0, 0, 0, -1, 0, false, 0⟩⟩ : SkS) _ hgi hSt hSh) ?_)
 clear hS; rintro _ _ w ⟨g_7, r_8, q_9, rfl, rfl, h_10, k_11⟩ hS
 replace hS : K.Sat w0 [g_7, q_9, g_2, fr] w := hS
 refine K.z (K.t (K.s (K.g (K.q [.pointer (some ⟨r_4, 0, none⟩), .pointer (some ⟨r_4, 0, none⟩)] (K.z (K.t (K.r ?_)))))))
 refine ⟨.inr rfl, rfl, (.pointer (some ⟨r_4, 0, none⟩)), K.res1 rfl rfl, [g_7, q_9], ?_, hS.pick [0, 1, 3]⟩
 exact ⟨_, _, _, rfl, rfl, _, _, trivial, h_10, .inr (.inl ⟨rfl, (by decide : ¬ (1 : Int) = 3), _, _, rfl, k_11, gtInit⟩)⟩
end Go.Proofs.YtbfafebfkdbglaaGreat
