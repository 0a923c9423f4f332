import Derived.Test.YtbfafebfkdbglaaGreatFpm3
import Derived.Test.YtbfafebfkdbglaaGreatFlist
/- The document's memory: Crash, New. -/
namespace Go.Proofs.YtbfafebfkdbglaaGreat
open Go.RowKit
set_option linter.unusedVariables false
attribute [local irreducible] K.KW K.RW K.DW K.OW K.QR K.KC
theorem repl_len {xs : List Int} {j N : Nat} (h : xs.length = N) (hj : j ≤ N) : (List.replicate j (0 : Int) ++ xs.drop j).length = N := by simp; omega
theorem repl_set {xs : List Int} {j : Nat} (h : j < xs.length) : (List.replicate j (0 : Int) ++ xs.drop j).set j 0 = List.replicate (j + 1) 0 ++ xs.drop (j + 1) := by
 rw [List.set_append_right _ _ (by simp), List.length_replicate, Nat.sub_self, List.drop_eq_getElem_cons h, List.set_cons_zero, List.replicate_succ', List.append_assoc]; rfl
theorem repl_all {xs : List Int} {N : Nat} (h : xs.length = N) : List.replicate N (0 : Int) ++ xs.drop N = List.replicate N 0 := by rw [List.drop_of_length_le (by omega), List.append_nil]
set_option maxHeartbeats 1000000 in
set_option maxRecDepth 100000 in
theorem rmCrash_ok (w0 : World) (p q n t : Nat) (M : MemM) (l : K.Cs) (x : RMemAt l p q n t M) :
  K.GC Tryz.prog w0 86 #[K.pa p] [l] (fun v post => ∃ l', v = .tuple #[] ∧ post = [l'] ∧ RMemAt l' p q n t M.crash) := by
 refine K.GC.mk (n := 27) Tryz.func86 rfl rfl [K.pa p] rfl rfl ?_
 intro fr w hS
 replace hS : K.Sat w0 [l, fr] w := hS
 refine K.s ?_
 obtain ⟨rg, rp, rd, ra, rnp, rcp, rfl, hrg, hrp, hrd, hrnp, hrn18⟩ := x
 replace hS : K.Sat w0 [rg, rp, rd, fr] w := hS.of
 refine K.g (K.q [K.pa p, K.pa p, K.pa p] ?_)
 refine K.d (K.pa q) ((hS.blk 0 rfl hrg).cell rfl) ?_
 refine K.l (K.OW.gcall hS [2] [0, 1, 3] [K.pa q, K.iv 3, K.iv 0, K.iv 0] (rdDo3_ok _ _ _ _ _ _ hrd 0 0 (by omega) (by omega)) ?_)
 clear hS; rintro _ _ w ⟨rfl, l_1, rfl, x_2⟩ hS
 replace hS : K.Sat w0 [l_1, rg, rp, fr] w := hS
 refine K.z (K.t (K.s (K.s (K.g (K.q [K.iv 0] (K.z (K.t ?_)))))))
 refine K.KW.block ?_
 refine K.KW.loop (fun m_ F_ w_ => ∃ (j : Nat) (rp1 : K.Cs), m_ = rnp - j ∧ K.Sl F_ [(0, K.pa p), (2, K.iv ((j : Nat) : Int)), (27, undef)] ∧ j ≤ rnp ∧ K.OwnG rp1 57 1 ra rnp rcp (((List.replicate j 0 ++ M.pass.drop j)).flatMap cU64) ∧ K.Sat w0 [l_1, rg, rp1, fr] w_) ((fun (j : Nat) => rnp - j) 0) ?_ ?_
 ·
  exact ⟨0, rp, rfl, ⟨by rfl, by rfl, by rfl, trivial⟩, (by omega), hrp, hS.pick [0, 1, 2, 3]⟩
 ·
  clear hS
  intro m_3 F_4 w hI
  obtain ⟨j, rp1, rfl, sl_5, p_6, x_7, hS⟩ := hI
  rw [← K.Sl.puts sl_5]; clear sl_5
  refine K.s (K.s (K.g (K.q [K.iv ((j : Nat) : Int), K.pa p, K.pa p, .pointer (some ⟨p, 1, none⟩)] ?_)))
  refine K.d (.slice ra rnp rcp) ((hS.blk 1 rfl hrg).cell rfl) ?_
  refine K.a (K.QR.len (P := Tryz.prog) rfl rfl Tryz.underlying78) ?_
  by_cases h_8 : (((j : Nat) : Int) : Int) < (((rnp : Nat) : Int) : Int)
  ·
   refine K.y ((((j : Nat) : Int) : Int) < (((rnp : Nat) : Int) : Int)) h_8 ?_
   refine K.z (K.t (K.h (K.k (K.t (K.s ?_)))))
   refine K.KW.block ?_
   refine K.g (K.q [K.pa p, K.pa p, .pointer (some ⟨p, 1, none⟩)] ?_)
   refine K.d (.slice ra rnp rcp) ((hS.blk 1 rfl hrg).cell rfl) ?_
   refine K.q [K.iv ((j : Nat) : Int)] ?_
   obtain ⟨b_9, rfl⟩ := x_7.some_ (by have := x_7.le; omega)
   refine K.a (K.QR.ix j 1 rfl rfl rfl Tryz.underlying78 (by kernel_rfl) (by omega) (by first | (simp; done) | omega | (simp; omega))) ?_
   refine K.l (K.OW.grst 2 j [.int .u64 0] ((((List.replicate j 0 ++ M.pass.drop j).set j 0)).flatMap cU64) hS x_7 ?_ (by show _ + 1 ≤ _; omega) (K.set1 (c := cU64) (List.replicate j 0 ++ M.pass.drop j) j 0 (by have := (repl_len hrnp (by omega)); omega)))
   clear hS; intro w l_11 o_12 hS
   have ln_13 : (((List.replicate j 0 ++ M.pass.drop j).set j 0)).length = _ := (List.length_set).trans (repl_len hrnp (by omega))
   replace hS : K.Sat w0 [l_1, rg, l_11, fr] w := hS
   refine K.z ?_
   refine K.blk_normal ?_
   refine K.t (K.g (K.q [K.iv ((j : Nat) : Int)] ?_))
   refine K.a (K.QR.n64 ((((j : Nat) : Int) : Int) + (1 : Int)) ((j + 1 : Nat) : Int) (by kernel_rfl) (by omega)) ?_
   refine K.q [K.iv ((j + 1 : Nat) : Int)] (K.z (K.t ?_))
   refine ⟨_, ?_, j + 1, l_11, rfl, ⟨by rfl, by rfl, by rfl, trivial⟩, (by omega), (by rw [← repl_set (by omega)]; exact o_12), hS.pick [0, 1, 2, 3]⟩
   omega
  ·
   refine K.x ((((j : Nat) : Int) : Int) < (((rnp : Nat) : Int) : Int)) h_8 ?_
   refine K.z (K.t (K.f ?_))
   refine K.KW.exit ?_
   refine K.thn_exit ?_
   refine K.thn_exit ?_
   refine K.blk_hit ?_
   refine K.t (K.g (K.q [K.pa p] ?_))
   refine K.a (K.QR.bd [] [K.iv 0, K.iv 0, K.iv 0, .int .u64 0, .int .u64 0, .bool false] rfl rfl (by kernel_rfl)) ?_
   refine K.q [K.pa p, .pointer (some ⟨p, 4, none⟩)] ?_
   refine K.l (K.OW.gst 1 [K.iv 0, K.iv 0, K.iv 0, .int .u64 0, .int .u64 0, .bool false] _ hS hrg ?_)
   clear hS; intro w g_14 hg_15 hS
   replace hS : K.Sat w0 [l_1, g_14, rp1, fr] w := hS
   refine K.z ?_
   obtain rfl : j = rnp := by omega
   replace hS : K.Sat w0 [[g_14, rp1, l_1].flatten, fr] w := (hS.pick [1, 2, 0, 3]).of
   refine ⟨.inl rfl, rfl, (.tuple #[]), K.res0 rfl, [[g_14, rp1, l_1].flatten], ?_, hS.pick [0, 1]⟩
   exact ⟨_, rfl, rfl, by unfold MemM.crash; rw [hrnp]; exact ⟨_, _, _, _, _, _, rfl, hg_15, (by have h := x_7; rw [repl_all hrnp] at h; exact h), x_2, List.length_replicate, hrn18⟩⟩
set_option maxHeartbeats 1000000 in
set_option maxRecDepth 100000 in
theorem rmNew_ok (w0 : World) (a : Option Addr) (m cap n : Nat) (xs : List Int) (t k : Int) (ht : 1 ≤ t ∧ t ≤ 64) (hn : 1 ≤ n ∧ n ≤ 262144) (lx : xs.length = m) (hm : m = n * 8) (hk : 0 ≤ k ∧ k ≤ 262144) (gx : K.Cs) (hx : ∀ w, K.Sat w0 [gx] w → K.RowE w a xs.length 1 (fun i => cU64 (xs.getD i 0))) :
  K.GC Tryz.prog w0 65 #[.slice a m cap, K.iv t, K.iv k] [gx] (fun v post => ∃ p q l', v = K.pa p ∧ post = [gx, l'] ∧ RMemAt l' p q n t.toNat (MemM.of (DevM.fresh xs n t.toNat) k.toNat)) := by
 refine K.GC.mk (n := 14) Tryz.func65 rfl rfl [.slice a m cap, K.iv t, K.iv k] rfl rfl ?_
 intro fr w hS
 replace hS : K.Sat w0 [gx, fr] w := hS
 refine K.s (K.g (K.q [.pointer none] (K.z (K.t (K.s ?_)))))
 refine K.KW.gdrawn [] hS (by kernel_rfl) ?_
 clear hS; intro w hS
 refine K.p 0 rfl (.slice a m cap) (hS.pick []) ?_
 refine K.p 1 rfl (K.iv t) (hS.pick []) ?_
 refine K.m 3 rfl (fun w hS => K.QR.turn (v := K.iv k) (K.QR.k (v := K.iv k) (by kernel_rfl)) (congrArg (Value.int .i64) (show (k : Int) = (((k.toNat : Nat) : Int) : Int) from by omega))) (hS.pick []) ?_
 refine K.DW.l2 2 4 rfl rfl (by kernel_rfl) rfl rfl ?_ ?_
 ·
  refine (K.OW.gcall hS [0] [1] [.slice a m cap, K.iv t] (rdOpen_okm _ _ _ _ n xs t (by omega) (by omega) lx (by omega) _ hx) ?_)
  clear hS; rintro _ _ w ⟨p_1, l_2, rfl, rfl, x_3⟩ hS
  replace hS : K.Sat w0 [gx, l_2, fr] w := hS
  refine ⟨.inl (hS.pick []), ?_⟩
  refine K.DW.l 4 rfl (by kernel_rfl) rfl (K.OW.gmk (P := Tryz.prog) (m := k.toNat) (cc := cU64) (z := .int .u64 0) (size := 1) (bytes := 8) (0 : Int) hS ?_ Tryz.underlying78 (by kernel_rfl) rfl rfl (by unfold maxLen; omega) (by omega))
  clear hS; intro w r_4 l_5 o_6 hS
  refine ⟨.inl (hS.pick []), ?_⟩
  refine K.c 5 rfl (K.QR.bd [(0, K.pa p_1), (1, .slice (some ⟨r_4, 0, none⟩) k.toNat k.toNat)] [K.pa p_1, .slice (some ⟨r_4, 0, none⟩) k.toNat k.toNat, K.iv 0, K.iv 0, K.iv 0, K.iv 0, K.iv 0, .int .u64 0, .int .u64 0, .bool false] rfl rfl (by kernel_rfl)) (hS.pick []) ?_
  refine K.DW.l 6 rfl (by kernel_rfl) rfl (K.OW.gnew 154 [K.pa p_1, .slice (some ⟨r_4, 0, none⟩) k.toNat k.toNat, K.iv 0, K.iv 0, K.iv 0, K.iv 0, K.iv 0, .int .u64 0, .int .u64 0, .bool false] hS ?_)
  clear hS; intro w r_7 g_8 hg_9 hS
  refine ⟨.inl (hS.pick []), ?_⟩
  refine K.b 7 rfl (K.pa r_7) (hS.pick []) ?_
  refine K.DW.done (by kernel_rfl) ?_
  refine K.t (K.r ?_)
  replace hS : K.Sat w0 [[g_8, l_5, l_2].flatten, gx, fr] w := (hS.pick [0, 1, 3, 2, 4]).of
  refine ⟨.inr rfl, rfl, (K.pa r_7), K.res1 rfl rfl, [gx, [g_8, l_5, l_2].flatten], ?_, hS.pick [1, 0, 2]⟩
  exact ⟨_, _, _, rfl, rfl, (by have hrn18 : k.toNat ≤ 262144 := (by omega); exact ⟨_, _, _, _, _, _, rfl, hg_9, o_6, x_3, (List.length_replicate : ((List.replicate k.toNat (0 : Int))).length = k.toNat), hrn18⟩)⟩
 ·
  refine (K.OW.gmk (P := Tryz.prog) (m := k.toNat) (cc := cU64) (z := .int .u64 0) (size := 1) (bytes := 8) (0 : Int) hS ?_ Tryz.underlying78 (by kernel_rfl) rfl rfl (by unfold maxLen; omega) (by omega))
  clear hS; intro w r_10 l_11 o_12 hS
  refine ⟨.inl (hS.pick []), ?_⟩
  refine K.DW.l 2 rfl (by kernel_rfl) rfl (K.OW.gcall hS [1] [0, 2] [.slice a m cap, K.iv t] (rdOpen_okm _ _ _ _ n xs t (by omega) (by omega) lx (by omega) _ hx) ?_)
  clear hS; rintro _ _ w ⟨p_13, l_14, rfl, rfl, x_15⟩ hS
  replace hS : K.Sat w0 [gx, l_14, l_11, fr] w := hS
  refine ⟨.inl (hS.pick []), ?_⟩
  refine K.c 5 rfl (K.QR.bd [(0, K.pa p_13), (1, .slice (some ⟨r_10, 0, none⟩) k.toNat k.toNat)] [K.pa p_13, .slice (some ⟨r_10, 0, none⟩) k.toNat k.toNat, K.iv 0, K.iv 0, K.iv 0, K.iv 0, K.iv 0, .int .u64 0, .int .u64 0, .bool false] rfl rfl (by kernel_rfl)) (hS.pick []) ?_
  refine K.DW.l 6 rfl (by kernel_rfl) rfl (K.OW.gnew 154 [K.pa p_13, .slice (some ⟨r_10, 0, none⟩) k.toNat k.toNat, K.iv 0, K.iv 0, K.iv 0, K.iv 0, K.iv 0, .int .u64 0, .int .u64 0, .bool false] hS ?_)
  clear hS; intro w r_16 g_17 hg_18 hS
  refine ⟨.inl (hS.pick []), ?_⟩
  refine K.b 7 rfl (K.pa r_16) (hS.pick []) ?_
  refine K.DW.done (by kernel_rfl) ?_
  refine K.t (K.r ?_)
  replace hS : K.Sat w0 [[g_17, l_11, l_14].flatten, gx, fr] w := (hS.pick [0, 3, 2, 1, 4]).of
  refine ⟨.inr rfl, rfl, (K.pa r_16), K.res1 rfl rfl, [gx, [g_17, l_11, l_14].flatten], ?_, hS.pick [1, 0, 2]⟩
  exact ⟨_, _, _, rfl, rfl, (by have hrn18 : k.toNat ≤ 262144 := (by omega); exact ⟨_, _, _, _, _, _, rfl, hg_18, o_12, x_15, (List.length_replicate : ((List.replicate k.toNat (0 : Int))).length = k.toNat), hrn18⟩)⟩
end Go.Proofs.YtbfafebfkdbglaaGreat
