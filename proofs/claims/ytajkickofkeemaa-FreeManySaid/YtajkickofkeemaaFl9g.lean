/- Layer 9: is each slot in the list once, or had by one? -/
import Derived.Test.YtajkickofkeemaaFl9f
import Derived.Test.YtajkickofkeemaaKj
import Derived.Test.YtajkickofkeemaaKn
namespace Go.Proofs.Ytajkickofkeemaa
open Go.RowKit
set_option linter.unusedVariables false
attribute [local irreducible] K.KW K.RW K.DW K.OW K.QR K.KC
def cRaw9 (l : List Value) : List Value := l
def handEl9 (b : Nat) : HandM → List Value → K.Cs → Prop
 | .nil, c, g => c = [.pointer none, .pointer none, .int .i64 0] ∧ g = []
 | .pop S, c, g => ∃ p, c = [.pointer (some ⟨p, 0, none⟩), .pointer none, .int .i64 (-1)] ∧ g = popPt p b S
 | .push S, c, g => ∃ p, c = [.pointer none, .pointer (some ⟨p, 0, none⟩), .int .i64 S.slot] ∧ g = pushPt p b S
theorem handEl9_held {b : Nat} {h : HandM} {c : List Value} {g : K.Cs} (e : handEl9 b h c g) (hn : h ≠ .nil) : ∃ u v : Option Addr, c = [.pointer u, .pointer v, .int .i64 h.held] := by
 cases h with
 | nil => exact absurd rfl hn
 | pop S => obtain ⟨p, rfl, _⟩ := e; exact ⟨_, _, rfl⟩
 | push S => obtain ⟨p, rfl, _⟩ := e; exact ⟨_, _, rfl⟩
theorem listL_ok (w0 : World) (b pm q n t : Nat) (c : Cfg) (hc : cfgOk c) (hf : c.sl ≤ 65536) (M : MemM) (gl l : K.Cs) (hgl : gl = layPt b c) (x : MemAt l pm q n t M) (hM : M.good) (hP : (M.pass.length : Int) = 2 + c.th + c.sl) (L : List Int) (hL : listG c n M = (L, true)) :
  K.GC Try.prog w0 26 #[.pointer (some ⟨b, 0, none⟩), .pointer (some ⟨pm, 0, none⟩)] [gl, l] (fun v post => ∃ r cc l2, v = .tuple #[.slice r L.length cc, .bool true] ∧ post = [gl, l, l2] ∧ K.OwnG l2 3 1 r L.length cc (L.flatMap cI64)) := by
 have h := list_ok w0 b pm q n t c hc hf M gl l hgl x hM hP
 rw [hL] at h
 exact h
set_option maxHeartbeats 1000000 in
set_option maxRecDepth 100000 in
theorem once9_ok (w0 : World) (b pm q n t : Nat) (c : Cfg) (hc : cfgOk c) (hf : c.sl ≤ 30) (M : MemM) (gl l hd : K.Cs) (hgl : gl = layPt b c) (x : MemAt l pm q n t M) (hM : M.good) (hP : (M.pass.length : Int) = 2 + c.th + c.sl) (r : Nat) (hs : List HandM) (N : Nat) (hN : hs.length = N) (hN2 : N ≤ 100) (xh : K.Hands (handEl9 b) 74 3 hd (some ⟨r, 0, none⟩) hs) (L : List Int) (hL : listG c n M = (L, true)) (hrg : ∀ s ∈ L, 0 ≤ s ∧ s < c.sl) (hLl : L.length ≤ 100) (hhe : ∀ (k : Nat) h, hs[k]? = some h → -1 ≤ h.held ∧ h.held < c.sl) (hni : ∀ (k : Nat) h, hs[k]? = some h → h ≠ .nil) (hcn : ∀ s : Int, 0 ≤ s → s < c.sl → L.count s + (hs.map HandM.held).count s = 1) :
  K.GC Try.prog w0 34 #[.pointer (some ⟨b, 0, none⟩), .pointer (some ⟨pm, 0, none⟩), .slice (some ⟨r, 0, none⟩) N N, .int .i64 c.sl] [gl, l, hd] (fun v post => ∃ hd', v = .bool true ∧ post = [gl, l, hd'] ∧ K.Hands (handEl9 b) 74 3 hd' (some ⟨r, 0, none⟩) hs) := by
 have hcc := hc
 unfold cfgOk at hcc
 refine K.GC.mk (n := 85) Try.func34 rfl rfl [.pointer (some ⟨b, 0, none⟩), .pointer (some ⟨pm, 0, none⟩), .slice (some ⟨r, 0, none⟩) N N, .int .i64 c.sl] rfl rfl ?_
 intro fr w hS
 replace hS : K.Sat w0 [gl, l, hd, fr] w := hS
 refine K.s (K.g (K.q [.bool false] (K.z (K.t (K.s (K.g (K.q [.pointer (some ⟨b, 0, none⟩), .pointer (some ⟨pm, 0, none⟩)] ?_)))))))
 refine K.l (K.OW.gcall hS [0, 1] [2, 3] [.pointer (some ⟨b, 0, none⟩), .pointer (some ⟨pm, 0, none⟩)] (listL_ok _ _ _ _ _ _ c (by first | assumption | (unfold cfgOk; decide)) (by omega) M _ _ hgl x (by assumption) (by assumption) L hL) ?_)
 clear hS; rintro _ _ w ⟨r_1, c_2, l_3, rfl, rfl, o_4⟩ hS
 replace hS : K.Sat w0 [gl, l, l_3, hd, fr] w := hS
 refine K.q [.tuple #[.slice r_1 L.length c_2, .bool true], .slice r_1 L.length c_2, .bool true, .slice r_1 L.length c_2, .bool true] (K.z (K.t (K.s (K.g ?_))))
 refine K.a (K.QR.turn (v := .int .i64 c.sl) (K.QR.k (v := .int .i64 c.sl) (by kernel_rfl)) (congrArg (Value.int .i64) (show (c.sl : Int) = (((c.sl.toNat : Nat) : Int) : Int) from by omega))) ?_
 refine K.l (K.OW.gmk (P := Try.prog) (m := c.sl.toNat) (cc := cI64) (z := .int .i64 0) (size := 1) (bytes := 8) (0 : Int) hS ?_ Try.underlying63 (by kernel_rfl) rfl rfl (by unfold maxLen; omega) (by omega))
 clear hS; intro w r_5 l_6 o_7 hS
 refine K.q [.slice (some ⟨r_5, 0, none⟩) c.sl.toNat c.sl.toNat] (K.z (K.t (K.s (K.s (K.g (K.q [.int .i64 0] (K.z (K.t ?_))))))))
 refine K.KW.block ?_
 refine K.KW.loop (fun m_ F_ w_ => ∃ (i : Nat) (ca : K.Cs), m_ = L.length - i ∧ K.Sl F_ [(0, .pointer (some ⟨b, 0, none⟩)), (1, .pointer (some ⟨pm, 0, none⟩)), (2, .slice (some ⟨r, 0, none⟩) N N), (3, .int .i64 c.sl), (9, .slice r_1 L.length c_2), (10, .bool true), (11, .slice (some ⟨r_5, 0, none⟩) c.sl.toNat c.sl.toNat), (12, .int .i64 ((i : Nat) : Int)), (85, undef)] ∧ i ≤ L.length ∧ K.OwnG ca 3 1 (some ⟨r_5, 0, none⟩) c.sl.toNat c.sl.toNat (((cntT c.sl.toNat (L.take i) [])).flatMap cI64) ∧ K.Sat w0 [ca, gl, l, l_3, hd, fr] w_) ((fun (i : Nat) => L.length - i) 0) ?_ ?_
 ·
  exact ⟨0, l_6, rfl, ⟨by rfl, by rfl, by rfl, by rfl, by rfl, by rfl, by rfl, by rfl, by rfl, trivial⟩, (by omega), (by rw [show L.take 0 = [] from rfl, ← cntT_nil]; exact o_7), hS.pick [0, 1, 2, 3, 4, 5]⟩
 ·
  clear hS
  intro m_8 F_9 w hI
  obtain ⟨i, ca, rfl, sl_10, p_11, x_12, hS⟩ := hI
  rw [← K.Sl.puts sl_10]; clear sl_10
  refine K.s (K.s (K.g (K.q [.int .i64 ((i : Nat) : Int), .slice r_1 L.length c_2] ?_)))
  refine K.a (K.QR.len (P := Try.prog) rfl rfl Try.underlying63) ?_
  by_cases h_13 : (((i : Nat) : Int) : Int) < (((L.length : Nat) : Int) : Int)
  ·
   refine K.y ((((i : Nat) : Int) : Int) < (((L.length : Nat) : Int) : Int)) h_13 ?_
   refine K.z (K.t (K.h (K.k (K.t (K.s ?_)))))
   refine K.KW.block ?_
   refine K.s (K.s ?_)
   have hxr := hrg _ (mem_getDI (xs := L) (k := i) (by omega) rfl)
   have hg1 := cntT_get (N := c.sl.toNat) (L := L.take i) (hs := []) (s := L.getD i 0) (by omega)
   have hb1 : (L.take i).count (L.getD i 0) ≤ L.length := Nat.le_trans (count_le _ _) (by rw [List.length_take]; omega)
   obtain ⟨b_14, rfl⟩ := o_4.some_ (by have := o_4.le; omega)
   refine K.g (K.q [.slice (some ⟨b_14, 0, none⟩) L.length c_2, .int .i64 ((i : Nat) : Int)] ?_)
   refine K.a (K.QR.ix i 1 rfl rfl rfl Try.underlying63 (by kernel_rfl) (by omega) (by first | (simp; done) | omega | (simp; omega))) ?_
   refine K.d (.int .i64 (L.getD i 0)) (K.Own.atS (c := cI64) (d := 0) (fun _ => rfl) (hS.ownr 3 rfl o_4) rfl i (by omega)) ?_
   refine K.x ((L.getD i 0 : Int) < (0 : Int)) (by omega) ?_
   refine K.q [.bool false, .slice (some ⟨b_14, 0, none⟩) L.length c_2, .int .i64 ((i : Nat) : Int)] ?_
   refine K.a (K.QR.ix i 1 rfl rfl rfl Try.underlying63 (by kernel_rfl) (by omega) (by first | (simp; done) | omega | (simp; omega))) ?_
   refine K.d (.int .i64 (L.getD i 0)) (K.Own.atS (c := cI64) (d := 0) (fun _ => rfl) (hS.ownr 3 rfl o_4) rfl i (by omega)) ?_
   refine K.q [.int .i64 c.sl] ?_
   refine K.x ((L.getD i 0 : Int) ≥ (c.sl : Int)) (by omega) ?_
   refine K.q [.bool false] (K.z (K.t (K.f (K.k (K.t (K.g (K.q [.slice (some ⟨r_5, 0, none⟩) c.sl.toNat c.sl.toNat, .slice (some ⟨b_14, 0, none⟩) L.length c_2, .int .i64 ((i : Nat) : Int)] ?_)))))))
   refine K.a (K.QR.ix i 1 rfl rfl rfl Try.underlying63 (by kernel_rfl) (by omega) (by first | (simp; done) | omega | (simp; omega))) ?_
   refine K.d (.int .i64 (L.getD i 0)) (K.Own.atS (c := cI64) (d := 0) (fun _ => rfl) (hS.ownr 3 rfl o_4) rfl i (by omega)) ?_
   refine K.a (K.QR.ix ((L.getD i 0).toNat) 1 rfl rfl rfl Try.underlying63 (by kernel_rfl) (by omega) (by first | (simp; done) | omega | (simp; omega))) ?_
   refine K.d (.int .i64 ((cntT c.sl.toNat (L.take i) []).getD ((L.getD i 0).toNat) 0)) (K.Own.atS (c := cI64) (d := 0) (fun _ => rfl) (hS.ownr 0 rfl x_12) (cntT_len c.sl.toNat (L.take i) []) ((L.getD i 0).toNat) (by omega)) ?_
   refine K.a (K.QR.n64 (((cntT c.sl.toNat (L.take i) []).getD (L.getD i 0).toNat 0 : Int) + (1 : Int)) ((((L.take i).count (L.getD i 0) + ([] : List Int).count (L.getD i 0) : Nat) : Int) + 1) (by kernel_rfl) (by rw [hg1]; have h0 : ([] : List Int).count (L.getD i 0) = 0 := rfl; omega)) ?_
   refine K.a (K.QR.ix ((L.getD i 0).toNat) 1 rfl rfl rfl Try.underlying63 (by kernel_rfl) (by omega) (by first | (simp; done) | omega | (simp; omega))) ?_
   refine K.l (K.OW.grst 0 ((L.getD i 0).toNat) [.int .i64 ((((L.take i).count (L.getD i 0) + ([] : List Int).count (L.getD i 0) : Nat) : Int) + 1)] ((((cntT c.sl.toNat (L.take i) []).set ((L.getD i 0).toNat) ((((L.take i).count (L.getD i 0) + ([] : List Int).count (L.getD i 0) : Nat) : Int) + 1))).flatMap cI64) hS x_12 ?_ (by show _ + 1 ≤ _; omega) (K.set1 (c := cI64) (cntT c.sl.toNat (L.take i) []) ((L.getD i 0).toNat) ((((L.take i).count (L.getD i 0) + ([] : List Int).count (L.getD i 0) : Nat) : Int) + 1) (by have := (cntT_len c.sl.toNat (L.take i) []); omega)))
   clear hS; intro w l_16 o_17 hS
   have ln_18 : (((cntT c.sl.toNat (L.take i) []).set ((L.getD i 0).toNat) ((((L.take i).count (L.getD i 0) + ([] : List Int).count (L.getD i 0) : Nat) : Int) + 1))).length = _ := (List.length_set).trans (cntT_len c.sl.toNat (L.take i) [])
   replace hS : K.Sat w0 [l_16, gl, l, l_3, hd, fr] w := hS
   refine K.z ?_
   refine K.blk_normal ?_
   refine K.t (K.g (K.q [.int .i64 ((i : Nat) : Int)] ?_))
   refine K.a (K.QR.n64 ((((i : Nat) : Int) : Int) + (1 : Int)) ((i + 1 : Nat) : Int) (by kernel_rfl) (by omega)) ?_
   refine K.q [.int .i64 ((i + 1 : Nat) : Int)] (K.z (K.t ?_))
   refine ⟨_, ?_, i + 1, l_16, rfl, ⟨by rfl, by rfl, by rfl, by rfl, by rfl, by rfl, by rfl, by rfl, by rfl, trivial⟩, (by omega), (by rw [take_snocZ (by omega), ← cntT_setL (by omega)]; exact o_17), hS.pick [0, 1, 2, 3, 4, 5]⟩
   omega
  ·
   refine K.x ((((i : Nat) : Int) : Int) < (((L.length : Nat) : Int) : Int)) h_13 ?_
   refine K.z (K.t (K.f ?_))
   refine K.KW.exit ?_
   refine K.thn_exit ?_
   refine K.thn_exit ?_
   refine K.blk_hit ?_
   refine K.t (K.s (K.s (K.g (K.q [.int .i64 0] (K.z (K.t ?_))))))
   refine K.KW.block ?_
   have eL : L.take i = L := List.take_of_length_le (by omega)
   refine K.KW.loop (fun m_ F_ w_ => ∃ (k : Nat) (cb : K.Cs) (hd2 : K.Cs), m_ = N - k ∧ K.Sl F_ [(0, .pointer (some ⟨b, 0, none⟩)), (1, .pointer (some ⟨pm, 0, none⟩)), (2, .slice (some ⟨r, 0, none⟩) N N), (3, .int .i64 c.sl), (10, .bool true), (11, .slice (some ⟨r_5, 0, none⟩) c.sl.toNat c.sl.toNat), (13, .int .i64 ((k : Nat) : Int)), (85, undef)] ∧ k ≤ N ∧ K.OwnG cb 3 1 (some ⟨r_5, 0, none⟩) c.sl.toNat c.sl.toNat (((cntT c.sl.toNat L ((hs.take k).map HandM.held))).flatMap cI64) ∧ K.Hands (handEl9 b) 74 3 hd2 ((some ⟨r, 0, none⟩)) hs ∧ K.Sat w0 [cb, gl, l, l_3, hd2, fr] w_) ((fun (k : Nat) => N - k) 0) ?_ ?_
   ·
    exact ⟨0, ca, hd, rfl, ⟨by rfl, by rfl, by rfl, by rfl, by rfl, by rfl, by rfl, by rfl, trivial⟩, (by omega), (by rw [show (hs.take 0).map HandM.held = [] from rfl, ← eL]; exact x_12), xh, hS.pick [0, 1, 2, 3, 4, 5]⟩
   ·
    clear hS
    intro m_19 F_20 w hI
    obtain ⟨k, cb, hd2, rfl, sl_21, p_22, x_23, x_24, hS⟩ := hI
    rw [← K.Sl.puts sl_21]; clear sl_21
    refine K.s (K.s (K.g (K.q [.int .i64 ((k : Nat) : Int), .slice (some ⟨r, 0, none⟩) N N] ?_)))
    refine K.a (K.QR.len (P := Try.prog) rfl rfl Try.underlying69) ?_
    by_cases h_25 : (((k : Nat) : Int) : Int) < (((N : Nat) : Int) : Int)
    ·
     refine K.y ((((k : Nat) : Int) : Int) < (((N : Nat) : Int) : Int)) h_25 ?_
     refine K.z (K.t (K.h (K.k (K.t (K.s ?_)))))
     refine K.KW.block ?_
     refine K.s ?_
     obtain ⟨h1, hk1⟩ := hs_at (hs := hs) (t := k) (by omega)
     have hhb := hhe k h1 hk1
     have hnn := hni k h1 hk1
     obtain ⟨row_26, hA_27, hg_28, hB_29, cs_30, rfl, hcs_31, hall_32, htl_33, hct_34, hel_35, how_36, hcl_37⟩ := x_24.open_ k h1 hk1
     replace hS : K.Sat w0 [cb, gl, l, l_3, row_26, hA_27, hg_28, hB_29, fr] w := hS.of
     obtain ⟨u, v, hce⟩ := handEl9_held hel_35 hnn
     rw [hce] at hel_35
     rw [hce] at how_36
     refine K.g (K.q [.slice (some ⟨r, 0, none⟩) N N, .int .i64 ((k : Nat) : Int)] ?_)
     refine K.a (K.QR.ix (0 + k * 3) 3 rfl rfl rfl Try.underlying69 (by kernel_rfl) (by omega) (by first | (simp; done) | omega | (simp; omega))) ?_
     refine K.q [.pointer (some ⟨r, 0 + k * 3 + 2, none⟩)] ?_
     refine K.d (.int .i64 h1.held) (K.row_at0 (j := 2) (hS.ownr 4 rfl how_36) hcs_31 hall_32 rfl htl_33 rfl) ?_
     refine K.q [.int .i64 h1.held] (K.z (K.t (K.s (K.s (K.g (K.q [.int .i64 h1.held, .int .i64 c.sl] ?_))))))
     refine K.x ((h1.held : Int) ≥ (c.sl : Int)) (by omega) ?_
     refine K.z (K.t (K.f (K.k (K.t (K.s (K.g (K.q [.int .i64 h1.held] ?_)))))))
     by_cases h_38 : (h1.held : Int) ≥ (0 : Int)
     ·
      refine K.y ((h1.held : Int) ≥ (0 : Int)) h_38 ?_
      refine K.z (K.t (K.h ?_))
      have hd_39 : K.Hands (handEl9 b) 74 3 (row_26 ++ (hA_27 ++ ([hg_28].flatten ++ hB_29))) ((some ⟨r, 0, none⟩)) (hs.set k h1) := hcl_37 _ _ _ [.pointer u, .pointer v, .int .i64 h1.held] rfl (by simpa using hel_35) how_36
      replace hS : K.Sat w0 [(row_26 ++ (hA_27 ++ ([hg_28].flatten ++ hB_29))), cb, gl, l, l_3, fr] w := (hS.pick [4, 5, 6, 7, 0, 1, 2, 3, 8]).of (by simp [K.pick, K.nth])
      generalize (row_26 ++ (hA_27 ++ ([hg_28].flatten ++ hB_29))) = ld_40 at hS hd_39
      rw [K.hs_self hk1] at hd_39
      have hg2 := cntT_get (N := c.sl.toNat) (L := L) (hs := (hs.take k).map HandM.held) (s := h1.held) (by omega)
      have hb2 := count_le L h1.held
      have hb3 : ((hs.take k).map HandM.held).count h1.held ≤ N := Nat.le_trans (count_le _ _) (by rw [List.length_map, List.length_take]; omega)
      refine K.g (K.q [.slice (some ⟨r_5, 0, none⟩) c.sl.toNat c.sl.toNat, .int .i64 h1.held] ?_)
      refine K.a (K.QR.ix h1.held.toNat 1 rfl rfl rfl Try.underlying63 (by kernel_rfl) (by omega) (by first | (simp; done) | omega | (simp; omega))) ?_
      refine K.d (.int .i64 ((cntT c.sl.toNat L ((hs.take k).map HandM.held)).getD h1.held.toNat 0)) (K.Own.atS (c := cI64) (d := 0) (fun _ => rfl) (hS.ownr 1 rfl x_23) (cntT_len c.sl.toNat L ((hs.take k).map HandM.held)) h1.held.toNat (by omega)) ?_
      refine K.a (K.QR.n64 (((cntT c.sl.toNat L ((hs.take k).map HandM.held)).getD h1.held.toNat 0 : Int) + (1 : Int)) (((L.count h1.held + ((hs.take k).map HandM.held).count h1.held : Nat) : Int) + 1) (by kernel_rfl) (by rw [hg2]; omega)) ?_
      refine K.a (K.QR.ix h1.held.toNat 1 rfl rfl rfl Try.underlying63 (by kernel_rfl) (by omega) (by first | (simp; done) | omega | (simp; omega))) ?_
      refine K.l (K.OW.grst 1 h1.held.toNat [.int .i64 (((L.count h1.held + ((hs.take k).map HandM.held).count h1.held : Nat) : Int) + 1)] ((((cntT c.sl.toNat L ((hs.take k).map HandM.held)).set h1.held.toNat (((L.count h1.held + ((hs.take k).map HandM.held).count h1.held : Nat) : Int) + 1))).flatMap cI64) hS x_23 ?_ (by show _ + 1 ≤ _; omega) (K.set1 (c := cI64) (cntT c.sl.toNat L ((hs.take k).map HandM.held)) h1.held.toNat (((L.count h1.held + ((hs.take k).map HandM.held).count h1.held : Nat) : Int) + 1) (by have := (cntT_len c.sl.toNat L ((hs.take k).map HandM.held)); omega)))
      clear hS; intro w l_41 o_42 hS
      have ln_43 : (((cntT c.sl.toNat L ((hs.take k).map HandM.held)).set h1.held.toNat (((L.count h1.held + ((hs.take k).map HandM.held).count h1.held : Nat) : Int) + 1))).length = _ := (List.length_set).trans (cntT_len c.sl.toNat L ((hs.take k).map HandM.held))
      replace hS : K.Sat w0 [ld_40, l_41, gl, l, l_3, fr] w := hS
      refine K.z ?_
      refine K.blk_normal ?_
      refine K.t (K.g (K.q [.int .i64 ((k : Nat) : Int)] ?_))
      refine K.a (K.QR.n64 ((((k : Nat) : Int) : Int) + (1 : Int)) ((k + 1 : Nat) : Int) (by kernel_rfl) (by omega)) ?_
      refine K.q [.int .i64 ((k + 1 : Nat) : Int)] (K.z (K.t ?_))
      refine ⟨_, ?_, k + 1, l_41, ld_40, rfl, ⟨by rfl, by rfl, by rfl, by rfl, by rfl, by rfl, by rfl, by rfl, trivial⟩, (by omega), (by rw [take_held hk1, ← cntT_setH (by omega)]; exact o_42), hd_39, hS.pick [1, 2, 3, 4, 0, 5]⟩
      omega
     ·
      refine K.x ((h1.held : Int) ≥ (0 : Int)) h_38 ?_
      refine K.z (K.t (K.f (K.k ?_)))
      refine K.blk_normal ?_
      refine K.t ?_
      have hd_44 : K.Hands (handEl9 b) 74 3 (row_26 ++ (hA_27 ++ ([hg_28].flatten ++ hB_29))) ((some ⟨r, 0, none⟩)) (hs.set k h1) := hcl_37 _ _ _ [.pointer u, .pointer v, .int .i64 h1.held] rfl (by simpa using hel_35) how_36
      replace hS : K.Sat w0 [(row_26 ++ (hA_27 ++ ([hg_28].flatten ++ hB_29))), cb, gl, l, l_3, fr] w := (hS.pick [4, 5, 6, 7, 0, 1, 2, 3, 8]).of (by simp [K.pick, K.nth])
      generalize (row_26 ++ (hA_27 ++ ([hg_28].flatten ++ hB_29))) = ld_45 at hS hd_44
      rw [K.hs_self hk1] at hd_44
      refine K.g (K.q [.int .i64 ((k : Nat) : Int)] ?_)
      refine K.a (K.QR.n64 ((((k : Nat) : Int) : Int) + (1 : Int)) ((k + 1 : Nat) : Int) (by kernel_rfl) (by omega)) ?_
      refine K.q [.int .i64 ((k + 1 : Nat) : Int)] (K.z (K.t ?_))
      refine ⟨_, ?_, k + 1, cb, ld_45, rfl, ⟨by rfl, by rfl, by rfl, by rfl, by rfl, by rfl, by rfl, by rfl, trivial⟩, (by omega), (by rw [take_held hk1, ← cntT_skip (by omega)]; exact x_23), hd_44, hS.pick [1, 2, 3, 4, 0, 5]⟩
      omega
    ·
     refine K.x ((((k : Nat) : Int) : Int) < (((N : Nat) : Int) : Int)) h_25 ?_
     refine K.z (K.t (K.f ?_))
     refine K.KW.exit ?_
     refine K.thn_exit ?_
     refine K.thn_exit ?_
     refine K.blk_hit ?_
     refine K.t (K.s (K.s (K.g (K.q [.int .i64 0] (K.z (K.t ?_))))))
     refine K.KW.block ?_
     have eH : hs.take k = hs := List.take_of_length_le (by omega)
     refine K.KW.loop (fun m_ F_ w_ => ∃ (s : Nat) (cc : K.Cs), m_ = c.sl.toNat - s ∧ K.Sl F_ [(0, .pointer (some ⟨b, 0, none⟩)), (1, .pointer (some ⟨pm, 0, none⟩)), (2, .slice (some ⟨r, 0, none⟩) N N), (3, .int .i64 c.sl), (10, .bool true), (11, .slice (some ⟨r_5, 0, none⟩) c.sl.toNat c.sl.toNat), (15, .int .i64 ((s : Nat) : Int)), (85, undef)] ∧ s ≤ c.sl.toNat ∧ K.OwnG cc 3 1 (some ⟨r_5, 0, none⟩) c.sl.toNat c.sl.toNat (((cntT c.sl.toNat L (hs.map HandM.held))).flatMap cI64) ∧ K.Sat w0 [cc, gl, l, l_3, hd2, fr] w_) ((fun (s : Nat) => c.sl.toNat - s) 0) ?_ ?_
     ·
      exact ⟨0, cb, rfl, ⟨by rfl, by rfl, by rfl, by rfl, by rfl, by rfl, by rfl, by rfl, trivial⟩, (by omega), (by rw [← eH]; exact x_23), hS.pick [0, 1, 2, 3, 4, 5]⟩
     ·
      clear hS
      intro m_46 F_47 w hI
      obtain ⟨s, cc, rfl, sl_48, p_49, x_50, hS⟩ := hI
      rw [← K.Sl.puts sl_48]; clear sl_48
      refine K.s (K.s (K.g (K.q [.int .i64 ((s : Nat) : Int), .int .i64 c.sl] ?_)))
      by_cases h_51 : (((s : Nat) : Int) : Int) < (c.sl : Int)
      ·
       refine K.y ((((s : Nat) : Int) : Int) < (c.sl : Int)) h_51 ?_
       refine K.z (K.t (K.h (K.k (K.t (K.s ?_)))))
       refine K.KW.block ?_
       refine K.s ?_
       have hg3 := cntT_get (N := c.sl.toNat) (L := L) (hs := hs.map HandM.held) (s := (s : Int)) (by omega)
       have hc3 := hcn (s : Int) (by omega) (by omega)
       refine K.g (K.q [.slice (some ⟨r_5, 0, none⟩) c.sl.toNat c.sl.toNat, .int .i64 ((s : Nat) : Int)] ?_)
       refine K.a (K.QR.ix s 1 rfl rfl rfl Try.underlying63 (by kernel_rfl) (by omega) (by first | (simp; done) | omega | (simp; omega))) ?_
       refine K.d (.int .i64 ((cntT c.sl.toNat L (hs.map HandM.held)).getD s 0)) (K.Own.atS (c := cI64) (d := 0) (fun _ => rfl) (hS.ownr 0 rfl x_50) (cntT_len c.sl.toNat L (hs.map HandM.held)) s (by omega)) ?_
       refine K.xn ((cntT c.sl.toNat L (hs.map HandM.held)).getD s 0 : Int) (1 : Int) (by have h := hg3; simp only [Int.toNat_natCast] at h; rw [h, hc3]; rfl) ?_
       refine K.z (K.t (K.f (K.k ?_)))
       refine K.blk_normal ?_
       refine K.t (K.g (K.q [.int .i64 ((s : Nat) : Int)] ?_))
       refine K.a (K.QR.n64 ((((s : Nat) : Int) : Int) + (1 : Int)) ((s + 1 : Nat) : Int) (by kernel_rfl) (by omega)) ?_
       refine K.q [.int .i64 ((s + 1 : Nat) : Int)] (K.z (K.t ?_))
       refine ⟨_, ?_, s + 1, cc, rfl, ⟨by rfl, by rfl, by rfl, by rfl, by rfl, by rfl, by rfl, by rfl, trivial⟩, (by omega), x_50, hS.pick [0, 1, 2, 3, 4, 5]⟩
       omega
      ·
       refine K.x ((((s : Nat) : Int) : Int) < (c.sl : Int)) h_51 ?_
       refine K.z (K.t (K.f ?_))
       refine K.KW.exit ?_
       refine K.thn_exit ?_
       refine K.thn_exit ?_
       refine K.blk_hit ?_
       refine K.t (K.s (K.g (K.q [.bool true, .bool true] (K.z (K.t (K.r ?_))))))
       refine ⟨.inr rfl, rfl, (.bool true), K.res1 rfl rfl, [gl, l, hd2], ?_, hS.pick [1, 2, 4, 5]⟩
       exact ⟨_, rfl, rfl, x_24⟩
end Go.Proofs.Ytajkickofkeemaa
