import Derived.Test.YtbfafebfkdbglaaGreatKi
import Derived.Test.YtbfafebfkdbglaaGreatFfr
import Derived.Test.YtbfafebfkdbglaaGreatFlist
/- Epochs: the machines' steps. -/
namespace Go.Proofs.YtbfafebfkdbglaaGreat
open Go.RowKit
set_option linter.unusedVariables false
attribute [local irreducible] K.KW K.RW K.DW K.OW K.QR K.KC
structure AdvS where
 t : Int
 done : Bool
 pc : Int
 now : Int
 next : Int
 moved : Bool
abbrev advPt (p b : Nat) (S : AdvS) : K.Cs := [K.pt p 249 [K.pa b, K.iv S.t, .bool S.done, K.iv S.pc, .int .u64 S.now, K.iv S.next, .bool S.moved]]
def AdvS.good (S : AdvS) : Prop := isInt S.t ∧ isW S.now ∧ (0 ≤ S.next ∧ S.next ≤ 64) ∧ (S.done = true ∨ (S.pc = 0 ∧ S.next = 0) ∨ S.pc = 1)
def inc64 (x : Int) : Int := (x + 1) % 18446744073709551616
theorem inc64_w (x : Int) : isW (inc64 x) := by unfold isW inc64; omega
theorem isW00 : isW 0 := by unfold isW; omega
/-- the next thread is asked -/
def askW (c : Cfg) (n : Nat) (S : AdvS) (M : MemM) : Int := (M.accL n S.t (annS c S.next)).2.old
def askS (c : Cfg) (n : Nat) (S : AdvS) (M : MemM) : AdvS × MemM :=
 (⟨S.t, decide (askW c n S M ≠ 0 ∧ askW c n S M ≠ inc64 S.now), S.pc, S.now, S.next + 1, S.moved⟩, (M.accL n S.t (annS c S.next)).1)
/-- the epoch is moved -/
def advA (n : Nat) (S : AdvS) (M : MemM) : MemM × AccM := M.accW n S.t (-1) S.now (inc64 S.now)
def advStep (c : Cfg) (n : Nat) (S : AdvS) (M : MemM) : AdvS × MemM :=
 if S.done = true then (S, M)
 else if S.pc = 0 then (⟨S.t, S.done, 1, (M.accL n S.t (-1)).2.old, S.next, S.moved⟩, (M.accL n S.t (-1)).1)
 else if S.next < c.th then askS c n S M
 else (⟨S.t, true, 2, S.now, S.next, (advA n S M).2.done⟩, (advA n S M).1)
theorem advStep_good {c : Cfg} (hc : cfgOk c) {n : Nat} {S : AdvS} {M : MemM} (hS : S.good) (hM : M.good) : (advStep c n S M).1.good ∧ (advStep c n S M).2.good := by
 unfold cfgOk at hc
 obtain ⟨h1, h2, h3, h4⟩ := hS
 unfold advStep
 split
 ·exact ⟨⟨h1, h2, h3, h4⟩, hM⟩
 rename_i hd
 split
 ·exact ⟨⟨h1, (accL_good (n := n) (th := S.t) (i := -1) hM).2, h3, .inr (.inr rfl)⟩, (accL_good hM).1⟩
 rename_i hp
 have hp1 : S.pc = 1 := by
  rcases h4 with h | h | h
  ·exact absurd h hd
  ·exact absurd h.1 hp
  ·exact h
 split
 ·exact ⟨⟨h1, h2, by show 0 ≤ S.next + 1 ∧ S.next + 1 ≤ 64; omega, .inr (.inr hp1)⟩, (accL_good hM).1⟩
 ·exact ⟨⟨h1, h2, h3, .inl rfl⟩, accW_good hM (inc64_w _)⟩
set_option maxHeartbeats 1000000 in
set_option maxRecDepth 100000 in
theorem advDone_ok (w0 : World) (p b : Nat) (S : AdvS) (gp : K.Cs) (hgp : gp = advPt p b S) :
  K.GC Tryz.prog w0 206 #[K.pa p] [gp] (fun v post => v = .bool S.done ∧ post = [gp]) := by
 refine K.GC.mk (n := 12) Tryz.func206 rfl rfl [K.pa p] rfl rfl ?_
 intro fr w hS
 replace hS : K.Sat w0 [gp, fr] w := hS
 refine K.s (K.g (K.q [.bool false] (K.z (K.t (K.s (K.g (K.q [K.pa p, .bool false, .bool false, K.pa p, K.pa p, K.pa p, .pointer (some ⟨p, 2, none⟩)] ?_)))))))
 refine K.d (.bool S.done) ((hS.blk 0 rfl hgp).cell rfl) ?_
 refine K.q [.bool S.done, .bool S.done] (K.z (K.t (K.r ?_)))
 refine ⟨.inr rfl, rfl, (.bool S.done), K.res1 rfl rfl, [gp], ?_, hS.pick [0, 1]⟩
 exact ⟨rfl, rfl⟩
set_option maxHeartbeats 1000000 in
set_option maxRecDepth 100000 in
theorem rest_ok (w0 : World) (from_ many : Int) :
  K.GC Tryz.prog w0 217 #[K.iv from_, K.iv many] [] (fun v post => ∃ b c g1 g2, v = .func (.func 227) [].toArray [K.pa b, K.pa c].toArray ∧ post = [g1, g2] ∧ g1 = [K.pt b 3 [K.iv from_]] ∧ g2 = [K.pt c 3 [K.iv many]]) := by
 refine K.GC.mk (n := 6) Tryz.func217 rfl rfl [K.iv from_, K.iv many] rfl rfl ?_
 intro fr w hS
 replace hS : K.Sat w0 [fr] w := hS
 refine K.s (K.g ?_)
 refine K.l (K.OW.gnew 3 [K.iv from_] hS ?_)
 clear hS; intro w r_1 g_2 hg_3 hS
 refine K.l (K.OW.gnew 3 [K.iv many] hS ?_)
 clear hS; intro w r_4 g_5 hg_6 hS
 refine K.q [.nilFunc] (K.z (K.t (K.s (K.g ?_))))
 refine K.a (K.QR.fn [] [K.pa r_1, K.pa r_4] rfl rfl rfl) ?_
 refine K.q [.func (.func 227) [].toArray [K.pa r_1, K.pa r_4].toArray] (K.z (K.t (K.r ?_)))
 refine ⟨.inr rfl, rfl, (.func (.func 227) [].toArray [K.pa r_1, K.pa r_4].toArray), K.res1 rfl rfl, [g_2, g_5], ?_, hS.pick [1, 0, 2]⟩
 exact ⟨_, _, _, _, rfl, rfl, hg_3, hg_6⟩
set_option maxHeartbeats 1000000 in
set_option maxRecDepth 100000 in
theorem rest_stop (w0 : World) (l : Nat) (b c : Nat) (from_ many : Int) (g1 g2 : K.Cs) (h1 : g1 = [K.pt b 3 [K.iv from_]]) (h2 : g2 = [K.pt c 3 [K.iv many]]) (hh : ¬ from_ < many) :
  K.GC Tryz.prog w0 227 #[.func (.yield l) #[] #[], K.pa b, K.pa c] [g1, g2] (fun _ post => post = [g1, g2]) := by
 refine K.GC.mk (n := 15) Tryz.func227 rfl rfl [.func (.yield l) #[] #[], K.pa b, K.pa c] rfl rfl ?_
 intro fr w hS
 replace hS : K.Sat w0 [g1, g2, fr] w := hS
 refine K.s (K.g ?_)
 refine K.d (K.iv from_) ((hS.blk 0 rfl h1).cell rfl) ?_
 refine K.q [K.iv from_] (K.z (K.t ?_))
 refine K.KW.block ?_
 refine K.KW.unr 0 ?_
 refine K.Unr.zero ?_
 refine K.s (K.s (K.g (K.q [K.iv from_] ?_)))
 refine K.d (K.iv many) ((hS.blk 1 rfl h2).cell rfl) ?_
 refine K.x ((from_ : Int) < (many : Int)) (hh) ?_
 refine K.z (K.t (K.f ?_))
 refine K.KW.exit ?_
 refine K.thn_exit ?_
 refine K.thn_exit ?_
 refine K.blk_hit ?_
 refine ⟨.inl rfl, rfl, (.tuple #[]), K.res0 rfl, [g1, g2], ?_, hS.pick [0, 1, 2]⟩
 exact rfl
set_option maxHeartbeats 1000000 in
set_option maxRecDepth 100000 in
theorem rest_one (w0 : World) (l : Nat) (b c : Nat) (from_ many : Int) (g1 g2 : K.Cs) (h1 : g1 = [K.pt b 3 [K.iv from_]]) (h2 : g2 = [K.pt c 3 [K.iv many]]) (hh : from_ < many) (m : K.Cs) (R : K.Cs → Prop) (hY : K.YG Tryz.prog w0 l [K.iv from_] false m R) :
  K.GC Tryz.prog w0 227 #[.func (.yield l) #[] #[], K.pa b, K.pa c] [g1, g2, m] (fun _ post => ∃ m', post = [g1, g2, m'] ∧ R m') := by
 refine K.GC.mk (n := 15) Tryz.func227 rfl rfl [.func (.yield l) #[] #[], K.pa b, K.pa c] rfl rfl ?_
 intro fr w hS
 replace hS : K.Sat w0 [g1, g2, m, fr] w := hS
 refine K.s (K.g ?_)
 refine K.d (K.iv from_) ((hS.blk 0 rfl h1).cell rfl) ?_
 refine K.q [K.iv from_] (K.z (K.t ?_))
 refine K.KW.block ?_
 refine K.KW.unr 0 ?_
 refine K.Unr.zero ?_
 refine K.s (K.s (K.g (K.q [K.iv from_] ?_)))
 refine K.d (K.iv many) ((hS.blk 1 rfl h2).cell rfl) ?_
 refine K.y ((from_ : Int) < (many : Int)) (hh) ?_
 refine K.z (K.t (K.h (K.k (K.t (K.s ?_)))))
 refine K.KW.block ?_
 refine K.s ?_
 refine K.KW.regionY ?_
 refine K.RY.q rfl rfl (K.QR.k (v := .func (.yield l) #[] #[]) (by kernel_rfl)) ?_
 refine K.RY.q rfl rfl (K.QR.k (v := K.iv from_) (by kernel_rfl)) ?_
 refine K.RY.gyield hS 2 [0, 1, 3] [K.iv from_] (hY) rfl rfl ?_
 clear hS; intro w m_1 hR_2 hS
 replace hS : K.Sat w0 [m_1, g1, g2, fr] w := hS
 refine K.RY.q rfl rfl (K.QR.k (v := .bool true) (by kernel_rfl)) ?_
 refine K.RY.nil ?_
 refine K.t (K.h (K.r ?_))
 refine K.blk_ret ?_
 refine K.u (K.u ?_)
 refine K.blk_ret ?_
 refine ⟨.inr rfl, rfl, (.tuple #[]), K.res0 rfl, [g1, g2, m_1], ?_, hS.pick [1, 2, 0, 3]⟩
 exact ⟨_, rfl, hR_2⟩
set_option maxHeartbeats 1000000 in
set_option maxRecDepth 100000 in
theorem advAsk_ok (w0 : World) (p b pm q n t : Nat) (c : Cfg) (hc : cfgOk c) (S : AdvS) (M : MemM) (gp gl l : K.Cs) (hgp : gp = advPt p b S) (hgl : gl = layPt b c) (x : MemAt l pm q n t M) (hM : M.good) (hS : S.good) :
  K.GC Tryz.prog w0 208 #[K.pa p, K.pa pm] [gp, gl, l] (fun v post => (∃ gp' l', v = .bool true ∧ S.next < c.th ∧ post = [gp', gl, l'] ∧ gp' = advPt p b (askS c n S M).1 ∧ MemAt l' pm q n t (askS c n S M).2) ∨ (v = .bool false ∧ ¬ S.next < c.th ∧ post = [gp, gl, l])) := by
 obtain ⟨hSt, hSn, hSx, hSd⟩ := hS
 have hcc := hc
 unfold cfgOk at hcc
 refine K.GC.mkD (n := 54) Tryz.func208 rfl rfl [K.pa p, K.pa pm] rfl rfl ?_
 intro fr w hS
 replace hS : K.Sat w0 [gp, gl, l, fr] w := hS
 refine K.s (K.g ?_)
 refine K.l (K.OW.gnew 165 [K.pa p] hS ?_)
 clear hS; intro w r_1 g_2 hg_3 hS
 refine K.l (K.OW.gnew 33 [K.pa pm] hS ?_)
 clear hS; intro w r_4 g_5 hg_6 hS
 refine K.l (K.OW.gnew 4 [.bool false] hS ?_)
 clear hS; intro w r_7 g_8 hg_9 hS
 refine K.z (K.t (K.s (K.s ?_)))
 refine K.KW.gdrawn [2, 3] hS (by kernel_rfl) ?_
 clear hS; intro w hS
 refine K.o_ 0 rfl (K.pa p) (fun w hS => ((hS.blk 0 rfl hg_3).cell rfl)) (hS.pick [2, 3]) ?_
 refine K.p 1 rfl (K.pa p) (hS.pick [2, 3]) ?_
 refine K.p 2 rfl (.pointer (some ⟨p, 5, none⟩)) (hS.pick [2, 3]) ?_
 refine K.o_ 3 rfl (K.iv S.next) (fun w hS => ((hS.blk 1 rfl hgp).cell rfl)) (hS.pick [2, 3]) ?_
 refine K.c 4 rfl (K.QR.ld1 (v := K.pa p) rfl rfl (by kernel_rfl) ((hS.blk 2 rfl hg_3).cell rfl)) (hS.pick [2, 3]) ?_
 refine K.b 5 rfl (K.pa p) (hS.pick [2, 3]) ?_
 refine K.b 6 rfl (K.pa p) (hS.pick [2, 3]) ?_
 refine K.b 7 rfl (K.pa p) (hS.pick [2, 3]) ?_
 refine K.c 8 rfl (K.QR.ld1 (v := K.pa b) rfl rfl (by kernel_rfl) ((hS.blk 3 rfl hgp).cell rfl)) (hS.pick [2, 3]) ?_
 refine K.DW.l 9 rfl (by kernel_rfl) rfl (K.OW.kcall hS [K.pa b] (lConfig _ c  _ (by assumption) (hS.blk 4 rfl hgl)) ?_)
 rintro _ w ⟨rfl, c_10⟩
 replace hS := hS.no c_10
 refine ⟨.inl (hS.pick [2, 3]), ?_⟩
 refine K.b 10 rfl (K.iv c.th) (hS.pick [2, 3]) ?_
 refine K.DW.l 11 rfl (by kernel_rfl) rfl (K.OW.gcall hS [] [0, 1, 2, 3, 4, 5, 6] [K.iv S.next, K.iv c.th] (rest_ok _ S.next c.th) ?_)
 clear hS; rintro _ _ w ⟨b_11, c_12, g_13, h_14, rfl, rfl, x_15, y_16⟩ hS
 replace hS : K.Sat w0 [g_13, h_14, g_8, g_5, g_2, gp, gl, l, fr] w := hS
 refine ⟨.inl (hS.pick [4, 5]), ?_⟩
 refine K.DW.done (by kernel_rfl) ?_
 refine K.t ?_
 refine K.KW.block ?_
 refine K.KW.grange (first := []) (cap := [K.pa b_11, K.pa c_12]) hS rfl (by kernel_rfl) rfl ?_
 clear hS; intro fid_17 w rd_18 lp_19 gd_20 gl_21 hgd_22 hgl_23 hS
 generalize hrec_25 : K.mkLoop _ _ _ _ _ _ _ = rec_24 at hgl_23
 by_cases h_26 : (S.next : Int) < (c.th : Int)
 ·
  refine K.KC.one (yargs := [K.iv S.next]) hS [2, 3] [0, 1, 4, 5, 6, 7, 8, 9, 10] (fun m R hY => rest_one _ _ _ _ S.next c.th _ _ x_15 y_16 h_26 m R hY) ?_
  clear hS; intro fr_27 w hS
  replace hS : K.Sat w0 [gl_21, gd_20, g_8, g_5, g_2, gp, gl, l, fr, fr_27] w := hS.of (by simp [K.pick, K.nth])
  subst hrec_25
  refine K.YS.ground (n := 54) (ps := [19]) 0 hS rfl hgl_23 rfl rfl rfl rfl rfl ?_
  refine K.g (K.q [K.iv S.next] (K.z ?_))
  refine K.rb_g 0 hS rfl hgl_23 rfl ?_
  clear hS; intro w gl_28 hgl_29 hS
  replace hS : K.Sat w0 [gl_28, gd_20, g_8, g_5, g_2, gp, gl, l, fr, fr_27] w := hS
  refine K.KW.block ?_
  refine K.s (K.g ?_)
  refine K.d (K.pa p) ((hS.blk 4 rfl hg_3).cell rfl) ?_
  refine K.q [K.iv S.next] ?_
  refine K.a (K.QR.n64 ((S.next : Int) + (1 : Int)) ((S.next : Int) + (1 : Int)) (by kernel_rfl) (by omega)) ?_
  refine K.q [K.pa p, .pointer (some ⟨p, 5, none⟩)] ?_
  refine K.l (K.OW.gst 5 [K.iv ((S.next : Int) + (1 : Int))] _ hS hgp ?_)
  clear hS; intro w g_30 hg_31 hS
  replace hS : K.Sat w0 [gl_28, gd_20, g_8, g_5, g_2, g_30, gl, l, fr, fr_27] w := hS
  refine K.z (K.t (K.s ?_))
  refine K.KW.gdrawn [3, 4, 5] hS (by kernel_rfl) ?_
  clear hS; intro w hS
  refine K.o_ 0 rfl (K.pa pm) (fun w hS => ((hS.blk 0 rfl hg_6).cell rfl)) (hS.pick [3, 4, 5]) ?_
  refine K.o_ 1 rfl (K.pa p) (fun w hS => ((hS.blk 1 rfl hg_3).cell rfl)) (hS.pick [3, 4, 5]) ?_
  refine K.p 2 rfl (K.pa p) (hS.pick [3, 4, 5]) ?_
  refine K.p 3 rfl (K.pa p) (hS.pick [3, 4, 5]) ?_
  refine K.p 4 rfl (.pointer (some ⟨p, 1, none⟩)) (hS.pick [3, 4, 5]) ?_
  refine K.o_ 5 rfl (K.iv S.t) (fun w hS => ((hS.blk 2 rfl hg_31).cell rfl)) (hS.pick [3, 4, 5]) ?_
  refine K.o_ 6 rfl (K.pa p) (fun w hS => ((hS.blk 1 rfl hg_3).cell rfl)) (hS.pick [3, 4, 5]) ?_
  refine K.p 7 rfl (K.pa p) (hS.pick [3, 4, 5]) ?_
  refine K.p 8 rfl (K.pa p) (hS.pick [3, 4, 5]) ?_
  refine K.p 9 rfl (K.pa p) (hS.pick [3, 4, 5]) ?_
  refine K.o_ 10 rfl (K.pa b) (fun w hS => ((hS.blk 2 rfl hg_31).cell rfl)) (hS.pick [3, 4, 5]) ?_
  refine K.b 11 rfl (K.iv S.next) (hS.pick [3, 4, 5]) ?_
  refine K.DW.l 12 rfl (by kernel_rfl) rfl (K.OW.kcall hS [K.pa b, K.iv S.next] (lAnnounce _ c S.next _ (by assumption) (hS.blk 6 rfl hgl)) ?_)
  rintro _ w ⟨rfl, c_32⟩
  replace hS := hS.no c_32
  refine ⟨.inl (hS.pick [3, 4, 5]), ?_⟩
  refine K.DW.l 13 rfl (by kernel_rfl) rfl (K.OW.gcall hS [7] [0, 1, 2, 3, 4, 5, 6, 8, 9] [K.pa pm, K.iv S.t, K.iv (annS c S.next)] (mLoad_ok _ _ _ _ _ _ _ x S.t (annS c S.next) (by first | omega | exact aft_int (by assumption) _ | exact ann_int (by assumption) _ (by omega)) ) ?_)
  clear hS; rintro _ _ w ⟨l_33, rfl, rfl, x_34⟩ hS
  replace hS : K.Sat w0 [l_33, gl_28, gd_20, g_8, g_5, g_2, g_30, gl, fr, fr_27] w := hS
  have hw_35 : isW (M.accL n S.t (annS c S.next)).2.old := (accL_good (by assumption)).2
  refine ⟨.inl (hS.pick [4, 5, 6]), ?_⟩
  refine K.b 14 rfl (.int .u64 ((M.accL n S.t (annS c S.next)).2.old)) (hS.pick [4, 5, 6]) ?_
  refine K.DW.done (by kernel_rfl) ?_
  refine K.t (K.s ?_)
  refine K.KW.gdrawn [5] hS (by kernel_rfl) ?_
  clear hS; intro w hS
  refine K.o_ 0 rfl (K.pa p) (fun w hS => ((hS.blk 0 rfl hg_3).cell rfl)) (hS.pick [5]) ?_
  refine K.b 1 rfl (.int .u64 ((M.accL n S.t (annS c S.next)).2.old)) (hS.pick [5]) ?_
  by_cases h_36 : ((M.accL n S.t (annS c S.next)).2.old : Int) = (0 : Int)
  ·
   refine K.c 2 rfl (K.QR.nice (v := .bool (((M.accL n S.t (annS c S.next)).2.old : Int) != (0 : Int))) (by kernel_rfl) (congrArg Value.bool (bne_eq_false_iff_eq.2 h_36))) (hS.pick [5]) ?_
   refine K.b 3 rfl (.bool false) (hS.pick [5]) ?_
   refine K.w_ 4 rfl (hS.pick [5]) ?_
   refine K.w_ 5 rfl (hS.pick [5]) ?_
   refine K.w_ 6 rfl (hS.pick [5]) ?_
   refine K.w_ 7 rfl (hS.pick [5]) ?_
   refine K.w_ 8 rfl (hS.pick [5]) ?_
   refine K.w_ 9 rfl (hS.pick [5]) ?_
   refine K.w_ 10 rfl (hS.pick [5]) ?_
   refine K.b 11 rfl (.bool false) (hS.pick [5]) ?_
   refine K.b 12 rfl (K.pa p) (hS.pick [5]) ?_
   refine K.b 13 rfl (K.pa p) (hS.pick [5]) ?_
   refine K.b 14 rfl (.pointer (some ⟨p, 2, none⟩)) (hS.pick [5]) ?_
   refine K.DW.l 15 rfl (by kernel_rfl) rfl (K.OW.gst 6 [.bool false] _ hS hg_31 ?_)
   clear hS; intro w g_37 hg_38 hS
   replace hS : K.Sat w0 [l_33, gl_28, gd_20, g_8, g_5, g_2, g_37, gl, fr, fr_27] w := hS
   refine ⟨.inl (hS.pick [5]), ?_⟩
   refine K.DW.done (by kernel_rfl) ?_
   refine K.t (K.s (K.g ?_))
   refine K.l (K.OW.gst 3 [.bool true] _ hS hg_9 ?_)
   clear hS; intro w g_39 hg_40 hS
   replace hS : K.Sat w0 [l_33, gl_28, gd_20, g_39, g_5, g_2, g_37, gl, fr, fr_27] w := hS
   refine K.z (K.t (K.r ?_))
   refine K.blk_ret ?_
   refine K.rq_ret_g 1 hS rfl hgl_29 ?_
   clear hS; intro w gl_41 hgl_42 hS
   replace hS : K.Sat w0 [l_33, gl_41, gd_20, g_39, g_5, g_2, g_37, gl, fr, fr_27] w := hS
   refine ⟨rfl, [l_33, gl_41, gd_20, g_39, g_5, g_2, g_37, gl, fr].flatten, ?_, (hS.pick [0, 1, 2, 3, 4, 5, 6, 7, 8, 9]).of (by simp [K.pick, K.nth])⟩
   clear hS; intro _ w hS
   replace hS : K.Sat w0 [g_13, h_14, l_33, gl_41, gd_20, g_39, g_5, g_2, g_37, gl, fr] w := hS.of (by simp [K.pick, K.nth])
   refine K.gafter 3 [0, 1, 2, 4, 5, 6, 7, 8, 9, 10] hS rfl hgl_42 (fun h => by cases h) ?_
   clear hS; intro w hS
   replace hS : K.Sat w0 [g_13, h_14, l_33, gd_20, g_39, g_5, g_2, g_37, gl, fr] w := hS
   refine K.afterR_ret rfl ?_
   refine K.blk_ret ?_
   refine K.u ?_
   refine ⟨.inr rfl, .inr ⟨_, rfl, K.endD 3 [0, 1, 2, 4, 5, 6, 7, 8, 9] hS rfl hgd_22 ?_⟩⟩
   clear hS; intro w hS
   replace hS : K.Sat w0 [g_13, h_14, l_33, g_39, g_5, g_2, g_37, gl, fr] w := hS
   have hd : decide (askW c n S M ≠ 0 ∧ askW c n S M ≠ inc64 S.now) = false := decide_eq_false (by unfold askW; omega)
   have e : askS c n S M = (⟨S.t, false, S.pc, S.now, (S.next : Int) + (1 : Int), S.moved⟩, ((M.accL n S.t (annS c S.next)).1)) := by unfold askS; rw [hd]
   refine ⟨(.bool true), K.resAt (rs := [.cell 4 4]) [.bool true] rfl ⟨⟨_, rfl, K.lv1 (by kernel_rfl) ((hS.blk 3 rfl hg_40).cell rfl)⟩, trivial⟩, [g_37, gl, l_33], ?_, hS.pick [6, 7, 2, 8]⟩
   exact .inl ⟨_, _, rfl, by omega, rfl, by rw [e]; exact hg_38, by rw [e]; exact x_34⟩
  ·
   refine K.c 2 rfl (K.QR.nice (v := .bool (((M.accL n S.t (annS c S.next)).2.old : Int) != (0 : Int))) (by kernel_rfl) (congrArg Value.bool (bne_iff_ne.2 h_36))) (hS.pick [5]) ?_
   refine K.b 3 rfl (.bool true) (hS.pick [5]) ?_
   refine K.p 4 rfl (.int .u64 ((M.accL n S.t (annS c S.next)).2.old)) (hS.pick [5]) ?_
   refine K.c 5 rfl (K.QR.ld1 (v := K.pa p) rfl rfl (by kernel_rfl) ((hS.blk 5 rfl hg_3).cell rfl)) (hS.pick [5]) ?_
   refine K.b 6 rfl (K.pa p) (hS.pick [5]) ?_
   refine K.b 7 rfl (.pointer (some ⟨p, 4, none⟩)) (hS.pick [5]) ?_
   refine K.c 8 rfl (K.QR.ld1 (v := .int .u64 S.now) rfl rfl (by kernel_rfl) ((hS.blk 6 rfl hg_31).cell rfl)) (hS.pick [5]) ?_
   refine K.c 9 rfl (K.QR.turn (v := .int .u64 (IntKind.u64.wrap ((S.now : Int) + (1 : Int)))) (K.QR.k (v := .int .u64 (IntKind.u64.wrap ((S.now : Int) + (1 : Int)))) (by kernel_rfl)) (congrArg (Value.int .u64) (show (IntKind.u64.wrap ((S.now : Int) + (1 : Int)) : Int) = (inc64 S.now : Int) from wrapU _))) (hS.pick [5]) ?_
   by_cases h_43 : ((M.accL n S.t (annS c S.next)).2.old : Int) = (inc64 S.now : Int)
   ·
    refine K.c 10 rfl (K.QR.nice (v := .bool (((M.accL n S.t (annS c S.next)).2.old : Int) != (inc64 S.now : Int))) (by kernel_rfl) (congrArg Value.bool (bne_eq_false_iff_eq.2 h_43))) (hS.pick [5]) ?_
    refine K.b 11 rfl (.bool false) (hS.pick [5]) ?_
    refine K.b 12 rfl (K.pa p) (hS.pick [5]) ?_
    refine K.b 13 rfl (K.pa p) (hS.pick [5]) ?_
    refine K.b 14 rfl (.pointer (some ⟨p, 2, none⟩)) (hS.pick [5]) ?_
    refine K.DW.l 15 rfl (by kernel_rfl) rfl (K.OW.gst 6 [.bool false] _ hS hg_31 ?_)
    clear hS; intro w g_44 hg_45 hS
    replace hS : K.Sat w0 [l_33, gl_28, gd_20, g_8, g_5, g_2, g_44, gl, fr, fr_27] w := hS
    refine ⟨.inl (hS.pick [5]), ?_⟩
    refine K.DW.done (by kernel_rfl) ?_
    refine K.t (K.s (K.g ?_))
    refine K.l (K.OW.gst 3 [.bool true] _ hS hg_9 ?_)
    clear hS; intro w g_46 hg_47 hS
    replace hS : K.Sat w0 [l_33, gl_28, gd_20, g_46, g_5, g_2, g_44, gl, fr, fr_27] w := hS
    refine K.z (K.t (K.r ?_))
    refine K.blk_ret ?_
    refine K.rq_ret_g 1 hS rfl hgl_29 ?_
    clear hS; intro w gl_48 hgl_49 hS
    replace hS : K.Sat w0 [l_33, gl_48, gd_20, g_46, g_5, g_2, g_44, gl, fr, fr_27] w := hS
    refine ⟨rfl, [l_33, gl_48, gd_20, g_46, g_5, g_2, g_44, gl, fr].flatten, ?_, (hS.pick [0, 1, 2, 3, 4, 5, 6, 7, 8, 9]).of (by simp [K.pick, K.nth])⟩
    clear hS; intro _ w hS
    replace hS : K.Sat w0 [g_13, h_14, l_33, gl_48, gd_20, g_46, g_5, g_2, g_44, gl, fr] w := hS.of (by simp [K.pick, K.nth])
    refine K.gafter 3 [0, 1, 2, 4, 5, 6, 7, 8, 9, 10] hS rfl hgl_49 (fun h => by cases h) ?_
    clear hS; intro w hS
    replace hS : K.Sat w0 [g_13, h_14, l_33, gd_20, g_46, g_5, g_2, g_44, gl, fr] w := hS
    refine K.afterR_ret rfl ?_
    refine K.blk_ret ?_
    refine K.u ?_
    refine ⟨.inr rfl, .inr ⟨_, rfl, K.endD 3 [0, 1, 2, 4, 5, 6, 7, 8, 9] hS rfl hgd_22 ?_⟩⟩
    clear hS; intro w hS
    replace hS : K.Sat w0 [g_13, h_14, l_33, g_46, g_5, g_2, g_44, gl, fr] w := hS
    have hd : decide (askW c n S M ≠ 0 ∧ askW c n S M ≠ inc64 S.now) = false := decide_eq_false (by unfold askW; omega)
    have e : askS c n S M = (⟨S.t, false, S.pc, S.now, (S.next : Int) + (1 : Int), S.moved⟩, ((M.accL n S.t (annS c S.next)).1)) := by unfold askS; rw [hd]
    refine ⟨(.bool true), K.resAt (rs := [.cell 4 4]) [.bool true] rfl ⟨⟨_, rfl, K.lv1 (by kernel_rfl) ((hS.blk 3 rfl hg_47).cell rfl)⟩, trivial⟩, [g_44, gl, l_33], ?_, hS.pick [6, 7, 2, 8]⟩
    exact .inl ⟨_, _, rfl, by omega, rfl, by rw [e]; exact hg_45, by rw [e]; exact x_34⟩
   ·
    refine K.c 10 rfl (K.QR.nice (v := .bool (((M.accL n S.t (annS c S.next)).2.old : Int) != (inc64 S.now : Int))) (by kernel_rfl) (congrArg Value.bool (bne_iff_ne.2 h_43))) (hS.pick [5]) ?_
    refine K.b 11 rfl (.bool true) (hS.pick [5]) ?_
    refine K.b 12 rfl (K.pa p) (hS.pick [5]) ?_
    refine K.b 13 rfl (K.pa p) (hS.pick [5]) ?_
    refine K.b 14 rfl (.pointer (some ⟨p, 2, none⟩)) (hS.pick [5]) ?_
    refine K.DW.l 15 rfl (by kernel_rfl) rfl (K.OW.gst 6 [.bool true] _ hS hg_31 ?_)
    clear hS; intro w g_50 hg_51 hS
    replace hS : K.Sat w0 [l_33, gl_28, gd_20, g_8, g_5, g_2, g_50, gl, fr, fr_27] w := hS
    refine ⟨.inl (hS.pick [5]), ?_⟩
    refine K.DW.done (by kernel_rfl) ?_
    refine K.t (K.s (K.g ?_))
    refine K.l (K.OW.gst 3 [.bool true] _ hS hg_9 ?_)
    clear hS; intro w g_52 hg_53 hS
    replace hS : K.Sat w0 [l_33, gl_28, gd_20, g_52, g_5, g_2, g_50, gl, fr, fr_27] w := hS
    refine K.z (K.t (K.r ?_))
    refine K.blk_ret ?_
    refine K.rq_ret_g 1 hS rfl hgl_29 ?_
    clear hS; intro w gl_54 hgl_55 hS
    replace hS : K.Sat w0 [l_33, gl_54, gd_20, g_52, g_5, g_2, g_50, gl, fr, fr_27] w := hS
    refine ⟨rfl, [l_33, gl_54, gd_20, g_52, g_5, g_2, g_50, gl, fr].flatten, ?_, (hS.pick [0, 1, 2, 3, 4, 5, 6, 7, 8, 9]).of (by simp [K.pick, K.nth])⟩
    clear hS; intro _ w hS
    replace hS : K.Sat w0 [g_13, h_14, l_33, gl_54, gd_20, g_52, g_5, g_2, g_50, gl, fr] w := hS.of (by simp [K.pick, K.nth])
    refine K.gafter 3 [0, 1, 2, 4, 5, 6, 7, 8, 9, 10] hS rfl hgl_55 (fun h => by cases h) ?_
    clear hS; intro w hS
    replace hS : K.Sat w0 [g_13, h_14, l_33, gd_20, g_52, g_5, g_2, g_50, gl, fr] w := hS
    refine K.afterR_ret rfl ?_
    refine K.blk_ret ?_
    refine K.u ?_
    refine ⟨.inr rfl, .inr ⟨_, rfl, K.endD 3 [0, 1, 2, 4, 5, 6, 7, 8, 9] hS rfl hgd_22 ?_⟩⟩
    clear hS; intro w hS
    replace hS : K.Sat w0 [g_13, h_14, l_33, g_52, g_5, g_2, g_50, gl, fr] w := hS
    have hd : decide (askW c n S M ≠ 0 ∧ askW c n S M ≠ inc64 S.now) = true := decide_eq_true (by unfold askW; omega)
    have e : askS c n S M = (⟨S.t, true, S.pc, S.now, (S.next : Int) + (1 : Int), S.moved⟩, ((M.accL n S.t (annS c S.next)).1)) := by unfold askS; rw [hd]
    refine ⟨(.bool true), K.resAt (rs := [.cell 4 4]) [.bool true] rfl ⟨⟨_, rfl, K.lv1 (by kernel_rfl) ((hS.blk 3 rfl hg_53).cell rfl)⟩, trivial⟩, [g_50, gl, l_33], ?_, hS.pick [6, 7, 2, 8]⟩
    exact .inl ⟨_, _, rfl, by omega, rfl, by rw [e]; exact hg_51, by rw [e]; exact x_34⟩
 ·
  refine K.KC.ofG hS [2, 3] [0, 1, 4, 5, 6, 7, 8, 9, 10] (rest_stop _ _ _ _ S.next c.th _ _ x_15 y_16 h_26 ) ?_
  clear hS; rintro _ _ w rfl hS
  replace hS : K.Sat w0 [g_13, h_14, gl_21, gd_20, g_8, g_5, g_2, gp, gl, l, fr] w := hS
  subst hrec_25
  refine K.gafter 2 [0, 1, 3, 4, 5, 6, 7, 8, 9, 10] hS rfl hgl_23 (fun h => by cases h) ?_
  clear hS; intro w hS
  replace hS : K.Sat w0 [g_13, h_14, gd_20, g_8, g_5, g_2, gp, gl, l, fr] w := hS
  refine K.afterR_none rfl ?_
  refine K.blk_normal ?_
  refine K.t (K.s (K.g ?_))
  refine K.l (K.OW.gst 3 [.bool false] _ hS hg_9 ?_)
  clear hS; intro w g_56 hg_57 hS
  replace hS : K.Sat w0 [g_13, h_14, gd_20, g_56, g_5, g_2, gp, gl, l, fr] w := hS
  refine K.z (K.t (K.r ?_))
  refine ⟨.inr rfl, .inr ⟨_, rfl, K.endD 2 [0, 1, 3, 4, 5, 6, 7, 8, 9] hS rfl hgd_22 ?_⟩⟩
  clear hS; intro w hS
  replace hS : K.Sat w0 [g_13, h_14, g_56, g_5, g_2, gp, gl, l, fr] w := hS
  refine ⟨(.bool false), K.resAt (rs := [.cell 4 4]) [.bool false] rfl ⟨⟨_, rfl, K.lv1 (by kernel_rfl) ((hS.blk 2 rfl hg_57).cell rfl)⟩, trivial⟩, [gp, gl, l], ?_, hS.pick [5, 6, 7, 8]⟩
  exact .inr ⟨rfl, by omega, rfl⟩
set_option maxHeartbeats 1000000 in
set_option maxRecDepth 100000 in
theorem advStep2_ok (w0 : World) (p b pm q n t : Nat) (c : Cfg) (tt now next : Int) (mv : Bool) (M : MemM) (gp gl l : K.Cs) (hgp : gp = [K.pt p 249 [K.pa b, K.iv tt, .bool false, K.iv 2, .int .u64 now, K.iv next, .bool mv]]) (hgl : gl = layPt b c) (x : MemAt l pm q n t M) (hc : cfgOk c) (hM : M.good) (hS1 : isInt tt) (hS2 : isW now) :
  K.GC Tryz.prog w0 193 #[K.pa p, K.pa pm] [gp, gl, l] (fun v post => ∃ gp' l', v = .bool true ∧ post = [gp', gl, l'] ∧ gp' = advPt p b ⟨tt, true, 2, now, next, (M.accW n tt (-1) now (inc64 now)).2.done⟩ ∧ MemAt l' pm q n t (M.accW n tt (-1) now (inc64 now)).1) := by
 refine K.GC.mk (n := 78) Tryz.func193 rfl rfl [K.pa p, K.pa pm] rfl rfl ?_
 intro fr w hS
 replace hS : K.Sat w0 [gp, gl, l, fr] w := hS
 refine K.s (K.g (K.q [.bool false] (K.z (K.t (K.s (K.s (K.g (K.q [K.pa p] ?_))))))))
 refine K.l (K.OW.gcall hS [0] [1, 2, 3] [K.pa p] (advDone_ok _ _ _ ⟨tt, false, 2, now, next, mv⟩ _ hgp) ?_)
 clear hS; rintro _ _ w ⟨rfl, rfl⟩ hS
 replace hS : K.Sat w0 [gp, gl, l, fr] w := hS
 refine K.z (K.t (K.f (K.k (K.t (K.s (K.s (K.g (K.q [K.pa p, K.pa p, .pointer (some ⟨p, 3, none⟩)] ?_))))))))
 refine K.d (K.iv 2) ((hS.blk 0 rfl hgp).cell rfl) ?_
 refine K.z (K.t ?_)
 refine K.KW.block ?_
 refine K.s (K.g (K.q [.bool false, .bool false] (K.z (K.t (K.f (K.s (K.g (K.q [.bool false, .bool false] (K.z (K.t (K.f ?_)))))))))))
 refine K.KW.gdrawnC [] (fun w => w.cell? ⟨p, 0, none⟩ = some (K.pa b) ∧ w.cell? ⟨p, 1, none⟩ = some (K.iv tt) ∧ w.cell? ⟨p, 4, none⟩ = some (.int .u64 now)) hS (by kernel_rfl) ?_
 clear hS; intro w hS
 refine K.p 0 rfl (K.pa p) ⟨hS.pick [], (hS.blk 0 rfl hgp).cell rfl, (hS.blk 0 rfl hgp).cell rfl, (hS.blk 0 rfl hgp).cell rfl⟩ ?_
 refine K.p 1 rfl (K.pa p) ⟨hS.pick [], (hS.blk 0 rfl hgp).cell rfl, (hS.blk 0 rfl hgp).cell rfl, (hS.blk 0 rfl hgp).cell rfl⟩ ?_
 refine K.p 2 rfl (K.pa pm) ⟨hS.pick [], (hS.blk 0 rfl hgp).cell rfl, (hS.blk 0 rfl hgp).cell rfl, (hS.blk 0 rfl hgp).cell rfl⟩ ?_
 refine K.p 3 rfl (K.pa p) ⟨hS.pick [], (hS.blk 0 rfl hgp).cell rfl, (hS.blk 0 rfl hgp).cell rfl, (hS.blk 0 rfl hgp).cell rfl⟩ ?_
 refine K.p 4 rfl (K.pa p) ⟨hS.pick [], (hS.blk 0 rfl hgp).cell rfl, (hS.blk 0 rfl hgp).cell rfl, (hS.blk 0 rfl hgp).cell rfl⟩ ?_
 refine K.p 5 rfl (K.pa p) ⟨hS.pick [], (hS.blk 0 rfl hgp).cell rfl, (hS.blk 0 rfl hgp).cell rfl, (hS.blk 0 rfl hgp).cell rfl⟩ ?_
 refine K.p 6 rfl (.pointer (some ⟨p, 1, none⟩)) ⟨hS.pick [], (hS.blk 0 rfl hgp).cell rfl, (hS.blk 0 rfl hgp).cell rfl, (hS.blk 0 rfl hgp).cell rfl⟩ ?_
 refine K.o_ 7 rfl (K.iv tt) (fun w ⟨hS, hC⟩ => hC.2.1) ⟨hS.pick [], (hS.blk 0 rfl hgp).cell rfl, (hS.blk 0 rfl hgp).cell rfl, (hS.blk 0 rfl hgp).cell rfl⟩ ?_
 refine K.p 8 rfl (K.pa p) ⟨hS.pick [], (hS.blk 0 rfl hgp).cell rfl, (hS.blk 0 rfl hgp).cell rfl, (hS.blk 0 rfl hgp).cell rfl⟩ ?_
 refine K.p 9 rfl (K.pa p) ⟨hS.pick [], (hS.blk 0 rfl hgp).cell rfl, (hS.blk 0 rfl hgp).cell rfl, (hS.blk 0 rfl hgp).cell rfl⟩ ?_
 refine K.p 10 rfl (K.pa p) ⟨hS.pick [], (hS.blk 0 rfl hgp).cell rfl, (hS.blk 0 rfl hgp).cell rfl, (hS.blk 0 rfl hgp).cell rfl⟩ ?_
 refine K.p 11 rfl (K.pa p) ⟨hS.pick [], (hS.blk 0 rfl hgp).cell rfl, (hS.blk 0 rfl hgp).cell rfl, (hS.blk 0 rfl hgp).cell rfl⟩ ?_
 refine K.o_ 12 rfl (K.pa b) (fun w ⟨hS, hC⟩ => hC.1) ⟨hS.pick [], (hS.blk 0 rfl hgp).cell rfl, (hS.blk 0 rfl hgp).cell rfl, (hS.blk 0 rfl hgp).cell rfl⟩ ?_
 refine K.p 14 rfl (K.pa p) ⟨hS.pick [], (hS.blk 0 rfl hgp).cell rfl, (hS.blk 0 rfl hgp).cell rfl, (hS.blk 0 rfl hgp).cell rfl⟩ ?_
 refine K.p 15 rfl (K.pa p) ⟨hS.pick [], (hS.blk 0 rfl hgp).cell rfl, (hS.blk 0 rfl hgp).cell rfl, (hS.blk 0 rfl hgp).cell rfl⟩ ?_
 refine K.p 16 rfl (.pointer (some ⟨p, 4, none⟩)) ⟨hS.pick [], (hS.blk 0 rfl hgp).cell rfl, (hS.blk 0 rfl hgp).cell rfl, (hS.blk 0 rfl hgp).cell rfl⟩ ?_
 refine K.o_ 17 rfl (.int .u64 now) (fun w ⟨hS, hC⟩ => hC.2.2) ⟨hS.pick [], (hS.blk 0 rfl hgp).cell rfl, (hS.blk 0 rfl hgp).cell rfl, (hS.blk 0 rfl hgp).cell rfl⟩ ?_
 refine K.p 18 rfl (K.pa p) ⟨hS.pick [], (hS.blk 0 rfl hgp).cell rfl, (hS.blk 0 rfl hgp).cell rfl, (hS.blk 0 rfl hgp).cell rfl⟩ ?_
 refine K.p 19 rfl (K.pa p) ⟨hS.pick [], (hS.blk 0 rfl hgp).cell rfl, (hS.blk 0 rfl hgp).cell rfl, (hS.blk 0 rfl hgp).cell rfl⟩ ?_
 refine K.p 20 rfl (.pointer (some ⟨p, 4, none⟩)) ⟨hS.pick [], (hS.blk 0 rfl hgp).cell rfl, (hS.blk 0 rfl hgp).cell rfl, (hS.blk 0 rfl hgp).cell rfl⟩ ?_
 refine K.o_ 21 rfl (.int .u64 now) (fun w ⟨hS, hC⟩ => hC.2.2) ⟨hS.pick [], (hS.blk 0 rfl hgp).cell rfl, (hS.blk 0 rfl hgp).cell rfl, (hS.blk 0 rfl hgp).cell rfl⟩ ?_
 refine K.m 22 rfl (fun w ⟨hS, hC⟩ => K.QR.turn (v := .int .u64 (IntKind.u64.wrap ((now : Int) + (1 : Int)))) (K.QR.k (v := .int .u64 (IntKind.u64.wrap ((now : Int) + (1 : Int)))) (by kernel_rfl)) (congrArg (Value.int .u64) (show (IntKind.u64.wrap ((now : Int) + (1 : Int)) : Int) = (inc64 now : Int) from wrapU _))) ⟨hS.pick [], (hS.blk 0 rfl hgp).cell rfl, (hS.blk 0 rfl hgp).cell rfl, (hS.blk 0 rfl hgp).cell rfl⟩ ?_
 refine K.DW.l 13 rfl (by kernel_rfl) rfl (K.OW.kcall hS [K.pa b] (lEpoch _ c  _ (by assumption) (hS.blk 1 rfl hgl)) ?_)
 rintro _ w ⟨rfl, c_1⟩
 replace hS := hS.no c_1
 refine ⟨.inl ⟨hS.pick [], (hS.blk 0 rfl hgp).cell rfl, (hS.blk 0 rfl hgp).cell rfl, (hS.blk 0 rfl hgp).cell rfl⟩, ?_⟩
 refine K.DW.l 23 rfl (by kernel_rfl) rfl (K.OW.gcall hS [2] [0, 1, 3] [K.pa pm, K.iv tt, K.iv (-1), .int .u64 now, .int .u64 (inc64 now)] (mSwap2_ok _ _ _ _ _ _ _ x tt ((-1) : Int) (by first | omega | exact aft_int (by assumption) _ | exact ann_int (by assumption) _ (by omega)) now (inc64 now)) ?_)
 clear hS; rintro _ _ w ⟨l_4, rfl, x_5, (⟨rfl, h_2⟩ | ⟨rfl, h_3⟩)⟩ hS
 ·
  replace hS : K.Sat w0 [l_4, gp, gl, fr] w := hS
  refine ⟨.inl ⟨hS.pick [], (hS.blk 1 rfl hgp).cell rfl, (hS.blk 1 rfl hgp).cell rfl, (hS.blk 1 rfl hgp).cell rfl⟩, ?_⟩
  refine K.b 24 rfl (K.pa p) ⟨hS.pick [], (hS.blk 1 rfl hgp).cell rfl, (hS.blk 1 rfl hgp).cell rfl, (hS.blk 1 rfl hgp).cell rfl⟩ ?_
  refine K.b 25 rfl (.pointer (some ⟨p, 6, none⟩)) ⟨hS.pick [], (hS.blk 1 rfl hgp).cell rfl, (hS.blk 1 rfl hgp).cell rfl, (hS.blk 1 rfl hgp).cell rfl⟩ ?_
  refine K.DW.l 26 rfl (by kernel_rfl) rfl (K.OW.gst 1 [.bool true] _ hS hgp ?_)
  clear hS; intro w g_6 hg_7 hS
  replace hS : K.Sat w0 [l_4, g_6, gl, fr] w := hS
  refine ⟨.inl ⟨hS.pick [], (hS.blk 1 rfl hg_7).cell rfl, (hS.blk 1 rfl hg_7).cell rfl, (hS.blk 1 rfl hg_7).cell rfl⟩, ?_⟩
  refine K.b 27 rfl (K.pa p) ⟨hS.pick [], (hS.blk 1 rfl hg_7).cell rfl, (hS.blk 1 rfl hg_7).cell rfl, (hS.blk 1 rfl hg_7).cell rfl⟩ ?_
  refine K.b 28 rfl (K.pa p) ⟨hS.pick [], (hS.blk 1 rfl hg_7).cell rfl, (hS.blk 1 rfl hg_7).cell rfl, (hS.blk 1 rfl hg_7).cell rfl⟩ ?_
  refine K.b 29 rfl (.pointer (some ⟨p, 2, none⟩)) ⟨hS.pick [], (hS.blk 1 rfl hg_7).cell rfl, (hS.blk 1 rfl hg_7).cell rfl, (hS.blk 1 rfl hg_7).cell rfl⟩ ?_
  refine K.DW.l 30 rfl (by kernel_rfl) rfl (K.OW.gst 1 [.bool true] _ hS hg_7 ?_)
  clear hS; intro w g_8 hg_9 hS
  replace hS : K.Sat w0 [l_4, g_8, gl, fr] w := hS
  refine ⟨.inl ⟨hS.pick [], (hS.blk 1 rfl hg_9).cell rfl, (hS.blk 1 rfl hg_9).cell rfl, (hS.blk 1 rfl hg_9).cell rfl⟩, ?_⟩
  refine K.DW.done (by kernel_rfl) ?_
  refine K.blk_normal ?_
  refine K.t (K.s (K.g (K.q [K.pa p, K.pa p, K.pa p, .pointer (some ⟨p, 2, none⟩)] ?_)))
  refine K.d (.bool true) ((hS.blk 1 rfl hg_9).cell rfl) ?_
  refine K.q [.bool true] (K.z (K.t (K.r ?_)))
  refine ⟨.inr rfl, rfl, (.bool true), K.res1 rfl rfl, [g_8, gl, l_4], ?_, hS.pick [1, 2, 0, 3]⟩
  exact ⟨_, _, rfl, rfl, by rw [(by assumption : (M.accW n tt (-1) now (inc64 now)).2.done = true)]; exact hg_9, x_5⟩
 ·
  replace hS : K.Sat w0 [l_4, gp, gl, fr] w := hS
  refine ⟨.inl ⟨hS.pick [], (hS.blk 1 rfl hgp).cell rfl, (hS.blk 1 rfl hgp).cell rfl, (hS.blk 1 rfl hgp).cell rfl⟩, ?_⟩
  refine K.b 24 rfl (K.pa p) ⟨hS.pick [], (hS.blk 1 rfl hgp).cell rfl, (hS.blk 1 rfl hgp).cell rfl, (hS.blk 1 rfl hgp).cell rfl⟩ ?_
  refine K.b 25 rfl (.pointer (some ⟨p, 6, none⟩)) ⟨hS.pick [], (hS.blk 1 rfl hgp).cell rfl, (hS.blk 1 rfl hgp).cell rfl, (hS.blk 1 rfl hgp).cell rfl⟩ ?_
  refine K.DW.l 26 rfl (by kernel_rfl) rfl (K.OW.gst 1 [.bool false] _ hS hgp ?_)
  clear hS; intro w g_10 hg_11 hS
  replace hS : K.Sat w0 [l_4, g_10, gl, fr] w := hS
  refine ⟨.inl ⟨hS.pick [], (hS.blk 1 rfl hg_11).cell rfl, (hS.blk 1 rfl hg_11).cell rfl, (hS.blk 1 rfl hg_11).cell rfl⟩, ?_⟩
  refine K.b 27 rfl (K.pa p) ⟨hS.pick [], (hS.blk 1 rfl hg_11).cell rfl, (hS.blk 1 rfl hg_11).cell rfl, (hS.blk 1 rfl hg_11).cell rfl⟩ ?_
  refine K.b 28 rfl (K.pa p) ⟨hS.pick [], (hS.blk 1 rfl hg_11).cell rfl, (hS.blk 1 rfl hg_11).cell rfl, (hS.blk 1 rfl hg_11).cell rfl⟩ ?_
  refine K.b 29 rfl (.pointer (some ⟨p, 2, none⟩)) ⟨hS.pick [], (hS.blk 1 rfl hg_11).cell rfl, (hS.blk 1 rfl hg_11).cell rfl, (hS.blk 1 rfl hg_11).cell rfl⟩ ?_
  refine K.DW.l 30 rfl (by kernel_rfl) rfl (K.OW.gst 1 [.bool true] _ hS hg_11 ?_)
  clear hS; intro w g_12 hg_13 hS
  replace hS : K.Sat w0 [l_4, g_12, gl, fr] w := hS
  refine ⟨.inl ⟨hS.pick [], (hS.blk 1 rfl hg_13).cell rfl, (hS.blk 1 rfl hg_13).cell rfl, (hS.blk 1 rfl hg_13).cell rfl⟩, ?_⟩
  refine K.DW.done (by kernel_rfl) ?_
  refine K.blk_normal ?_
  refine K.t (K.s (K.g (K.q [K.pa p, K.pa p, K.pa p, .pointer (some ⟨p, 2, none⟩)] ?_)))
  refine K.d (.bool true) ((hS.blk 1 rfl hg_13).cell rfl) ?_
  refine K.q [.bool true] (K.z (K.t (K.r ?_)))
  refine ⟨.inr rfl, rfl, (.bool true), K.res1 rfl rfl, [g_12, gl, l_4], ?_, hS.pick [1, 2, 0, 3]⟩
  exact ⟨_, _, rfl, rfl, by rw [(by assumption : (M.accW n tt (-1) now (inc64 now)).2.done = false)]; exact hg_13, x_5⟩
set_option maxHeartbeats 1000000 in
set_option maxRecDepth 100000 in
theorem advStep_ok (w0 : World) (p b pm q n t : Nat) (c : Cfg) (hc : cfgOk c) (S : AdvS) (M : MemM) (gp gl l : K.Cs) (hgp : gp = advPt p b S) (hgl : gl = layPt b c) (x : MemAt l pm q n t M) (hM : M.good) (hS : S.good) :
  K.GC Tryz.prog w0 193 #[K.pa p, K.pa pm] [gp, gl, l] (fun v post => ∃ gp' l', v = .bool (advStep c n S M).1.done ∧ post = [gp', gl, l'] ∧ gp' = advPt p b (advStep c n S M).1 ∧ MemAt l' pm q n t (advStep c n S M).2) := by
 have hS0 := hS
 obtain ⟨hSt, hSn, hSx, hSd⟩ := hS
 refine K.GC.mk (n := 78) Tryz.func193 rfl rfl [K.pa p, K.pa pm] rfl rfl ?_
 intro fr w hS
 replace hS : K.Sat w0 [gp, gl, l, fr] w := hS
 refine K.s (K.g (K.q [.bool false] (K.z (K.t (K.s (K.s (K.g (K.q [K.pa p] ?_))))))))
 refine K.l (K.OW.gcall hS [0] [1, 2, 3] [K.pa p] (advDone_ok _ _ _ ⟨S.t, S.done, S.pc, S.now, S.next, S.moved⟩ _ hgp) ?_)
 clear hS; rintro _ _ w ⟨rfl, rfl⟩ hS
 replace hS : K.Sat w0 [gp, gl, l, fr] w := hS
 cases hb_1 : S.done
 ·
  refine K.z (K.t (K.f (K.k (K.t (K.s (K.s (K.g (K.q [K.pa p, K.pa p, .pointer (some ⟨p, 3, none⟩)] ?_))))))))
  refine K.d (K.iv S.pc) ((hS.blk 0 rfl hgp).cell rfl) ?_
  refine K.z (K.t ?_)
  refine K.KW.block ?_
  refine K.s (K.g ?_)
  by_cases h_2 : (S.pc : Int) = (0 : Int)
  ·
   refine K.ye (S.pc : Int) (0 : Int) h_2 ?_
   refine K.q [.bool true] (K.z (K.t (K.h ?_)))
   refine K.KW.gdrawnC [] (fun w => w.cell? ⟨p, 1, none⟩ = some (K.iv S.t)) hS (by kernel_rfl) ?_
   clear hS; intro w hS
   refine K.p 0 rfl (K.pa p) ⟨hS.pick [], (hS.blk 0 rfl hgp).cell rfl⟩ ?_
   refine K.p 1 rfl (K.pa p) ⟨hS.pick [], (hS.blk 0 rfl hgp).cell rfl⟩ ?_
   refine K.p 2 rfl (K.pa pm) ⟨hS.pick [], (hS.blk 0 rfl hgp).cell rfl⟩ ?_
   refine K.p 3 rfl (K.pa p) ⟨hS.pick [], (hS.blk 0 rfl hgp).cell rfl⟩ ?_
   refine K.p 4 rfl (K.pa p) ⟨hS.pick [], (hS.blk 0 rfl hgp).cell rfl⟩ ?_
   refine K.p 5 rfl (K.pa p) ⟨hS.pick [], (hS.blk 0 rfl hgp).cell rfl⟩ ?_
   refine K.p 6 rfl (.pointer (some ⟨p, 1, none⟩)) ⟨hS.pick [], (hS.blk 0 rfl hgp).cell rfl⟩ ?_
   refine K.o_ 7 rfl (K.iv S.t) (fun w ⟨hS, hC⟩ => hC) ⟨hS.pick [], (hS.blk 0 rfl hgp).cell rfl⟩ ?_
   refine K.b 8 rfl (K.pa p) ⟨hS.pick [], (hS.blk 0 rfl hgp).cell rfl⟩ ?_
   refine K.b 9 rfl (K.pa p) ⟨hS.pick [], (hS.blk 0 rfl hgp).cell rfl⟩ ?_
   refine K.b 10 rfl (K.pa p) ⟨hS.pick [], (hS.blk 0 rfl hgp).cell rfl⟩ ?_
   refine K.b 11 rfl (K.pa p) ⟨hS.pick [], (hS.blk 0 rfl hgp).cell rfl⟩ ?_
   refine K.c 12 rfl (K.QR.ld1 (v := K.pa b) rfl rfl (by kernel_rfl) ((hS.blk 0 rfl hgp).cell rfl)) ⟨hS.pick [], (hS.blk 0 rfl hgp).cell rfl⟩ ?_
   refine K.DW.l 13 rfl (by kernel_rfl) rfl (K.OW.kcall hS [K.pa b] (lEpoch _ c  _ (by assumption) (hS.blk 1 rfl hgl)) ?_)
   rintro _ w ⟨rfl, c_3⟩
   replace hS := hS.no c_3
   refine ⟨.inl ⟨hS.pick [], (hS.blk 0 rfl hgp).cell rfl⟩, ?_⟩
   refine K.DW.l 14 rfl (by kernel_rfl) rfl (K.OW.gcall hS [2] [0, 1, 3] [K.pa pm, K.iv S.t, K.iv (-1)] (mLoad_ok _ _ _ _ _ _ _ x S.t ((-1) : Int) (by first | omega | exact aft_int (by assumption) _ | exact ann_int (by assumption) _ (by omega)) ) ?_)
   clear hS; rintro _ _ w ⟨l_4, rfl, rfl, x_5⟩ hS
   replace hS : K.Sat w0 [l_4, gp, gl, fr] w := hS
   have hw_6 : isW (M.accL n S.t ((-1) : Int)).2.old := (accL_good (by assumption)).2
   refine ⟨.inl ⟨hS.pick [], (hS.blk 1 rfl hgp).cell rfl⟩, ?_⟩
   refine K.b 15 rfl (K.pa p) ⟨hS.pick [], (hS.blk 1 rfl hgp).cell rfl⟩ ?_
   refine K.b 16 rfl (.pointer (some ⟨p, 4, none⟩)) ⟨hS.pick [], (hS.blk 1 rfl hgp).cell rfl⟩ ?_
   refine K.DW.l 17 rfl (by kernel_rfl) rfl (K.OW.gst 1 [.int .u64 ((M.accL n S.t ((-1) : Int)).2.old)] _ hS hgp ?_)
   clear hS; intro w g_7 hg_8 hS
   replace hS : K.Sat w0 [l_4, g_7, gl, fr] w := hS
   refine ⟨.inl ⟨hS.pick [], (hS.blk 1 rfl hg_8).cell rfl⟩, ?_⟩
   refine K.b 18 rfl (K.pa p) ⟨hS.pick [], (hS.blk 1 rfl hg_8).cell rfl⟩ ?_
   refine K.b 19 rfl (.pointer (some ⟨p, 3, none⟩)) ⟨hS.pick [], (hS.blk 1 rfl hg_8).cell rfl⟩ ?_
   refine K.DW.l 20 rfl (by kernel_rfl) rfl (K.OW.gst 1 [K.iv 1] _ hS hg_8 ?_)
   clear hS; intro w g_9 hg_10 hS
   replace hS : K.Sat w0 [l_4, g_9, gl, fr] w := hS
   refine ⟨.inr (by kernel_rfl), ?_⟩
   refine K.DW.done (by kernel_rfl) ?_
   refine K.blk_normal ?_
   refine K.t (K.s (K.g (K.q [K.pa p, K.pa p, K.pa p, .pointer (some ⟨p, 2, none⟩)] ?_)))
   refine K.d (.bool S.done) ((hS.blk 1 rfl hg_10).cell rfl) ?_
   refine K.q [.bool S.done] (K.z (K.t (K.r ?_)))
   have e : advStep c n S M = (⟨S.t, S.done, 1, (M.accL n S.t ((-1) : Int)).2.old, S.next, S.moved⟩, ((M.accL n S.t ((-1) : Int)).1)) := by unfold advStep; rw [if_neg (by rw [hb_1]; decide), if_pos (by omega)]
   refine ⟨.inr rfl, rfl, (.bool S.done), K.res1 rfl rfl, [g_9, gl, l_4], ?_, hS.pick [1, 2, 0, 3]⟩
   exact ⟨_, _, by rw [e], rfl, by rw [e]; exact hg_10, by rw [e]; exact x_5⟩
  ·
   refine K.xe (S.pc : Int) (0 : Int) h_2 ?_
   refine K.q [.bool false] (K.z (K.t (K.f (K.s (K.g ?_)))))
   by_cases h_11 : (S.pc : Int) = (1 : Int)
   ·
    refine K.ye (S.pc : Int) (1 : Int) h_11 ?_
    refine K.q [.bool true] (K.z (K.t (K.h (K.s (K.g (K.q [K.pa p, K.pa pm] ?_))))))
    refine K.l (K.OW.gcall hS [0, 1, 2] [3] [K.pa p, K.pa pm] (advAsk_ok _ _ _ _ _ _ _ c (by assumption) S M _ _ _ hgp hgl x (by assumption) (by assumption)) ?_)
    clear hS; rintro _ _ w (⟨g_12, l_13, rfl, hlt_14, rfl, h_15, x_16⟩ | ⟨rfl, hge_17, rfl⟩) hS
    ·
     replace hS : K.Sat w0 [g_12, gl, l_13, fr] w := hS
     refine K.q [.bool false] (K.z (K.t (K.f (K.k ?_))))
     refine K.blk_normal ?_
     refine K.t (K.s (K.g (K.q [K.pa p, K.pa p, K.pa p, .pointer (some ⟨p, 2, none⟩)] ?_)))
     refine K.d (.bool ((askS c n S M).1.done)) ((hS.blk 0 rfl h_15).cell rfl) ?_
     refine K.q [.bool ((askS c n S M).1.done)] (K.z (K.t (K.r ?_)))
     have e : advStep c n S M = askS c n S M := by unfold advStep; rw [if_neg (by rw [hb_1]; decide), if_neg (by omega), if_pos (by omega)]
     refine ⟨.inr rfl, rfl, (.bool ((askS c n S M).1.done)), K.res1 rfl rfl, [g_12, gl, l_13], ?_, hS.pick [0, 1, 2, 3]⟩
     exact ⟨_, _, by rw [e], rfl, by rw [e]; exact h_15, by rw [e]; exact x_16⟩
    ·
     replace hS : K.Sat w0 [gp, gl, l, fr] w := hS
     refine K.q [.bool true] (K.z (K.t (K.h (K.s (K.g (K.q [K.pa p, K.pa p, .pointer (some ⟨p, 3, none⟩)] ?_))))))
     refine K.l (K.OW.gst 0 [K.iv 2] _ hS hgp ?_)
     clear hS; intro w g_18 hg_19 hS
     replace hS : K.Sat w0 [g_18, gl, l, fr] w := hS
     refine K.z (K.t (K.s (K.g (K.q [K.pa p, K.pa pm] ?_))))
     refine K.l (K.OW.gcall hS [0, 1, 2] [3] [K.pa p, K.pa pm] (advStep2_ok _ _ _ _ _ _ _ _ S.t S.now S.next S.moved M _ _ _ (by rw [← hb_1]; exact hg_19) hgl x (by assumption) (by assumption) hSt hSn) ?_)
     clear hS; rintro _ _ w ⟨g_20, l_21, rfl, rfl, h_22, x_23⟩ hS
     replace hS : K.Sat w0 [g_20, gl, l_21, fr] w := hS
     refine K.q [.bool true] (K.z (K.t (K.r ?_)))
     refine K.blk_ret ?_
     refine K.u ?_
     have e : advStep c n S M = (⟨S.t, true, 2, S.now, S.next, (M.accW n S.t (-1) S.now (inc64 S.now)).2.done⟩, ((M.accW n S.t (-1) S.now (inc64 S.now)).1)) := by unfold advStep; rw [if_neg (by rw [hb_1]; decide), if_neg (by omega), if_neg (by omega)]; rfl
     refine ⟨.inr rfl, rfl, (.bool true), K.res1 rfl rfl, [g_20, gl, l_21], ?_, hS.pick [0, 1, 2, 3]⟩
     exact ⟨_, _, by rw [e], rfl, by rw [e]; exact h_22, by rw [e]; exact x_23⟩
   ·
    refine K.xe (S.pc : Int) (1 : Int) h_11 ?_
    refine K.q [.bool false] (K.z (K.t (K.f ?_)))
    exfalso
    rcases hSd with h | h | h
    ·rw [hb_1] at h; cases h
    ·omega
    ·omega
 ·
  refine K.z (K.t (K.h (K.s (K.g (K.q [.bool true] (K.z (K.t (K.r (K.u ?_)))))))))
  have e : advStep c n S M = (S, M) := by unfold advStep; rw [if_pos hb_1]
  refine ⟨.inr rfl, rfl, (.bool true), K.res1 rfl rfl, [gp, gl, l], ?_, hS.pick [0, 1, 2, 3]⟩
  exact ⟨_, _, by rw [e]; exact congrArg Value.bool hb_1.symm, rfl, by rw [e]; exact hgp, by rw [e]; exact x⟩
end Go.Proofs.YtbfafebfkdbglaaGreat
