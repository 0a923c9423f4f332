import Derived.Test.YtnehocjmgnhhhaaFmod
import Derived.Test.YtnehocjmgnhhhaaKn
/- ModelSames: which states are alike. -/
namespace Go.Proofs.Ytnehocjmgnhhhaa
open Go.RowKit
set_option linter.unusedVariables false
attribute [local irreducible] K.KW K.RW K.DW K.OW K.QR K.KC
theorem eqRes_t {a0 a1 b0 b1 : Int} (h : a0 = b0 ∧ a1 = b1) (w : World) : (Op.equal 49 (.agg #[K.iv a0, .int .u32 a1]) (.agg #[K.iv b0, .int .u32 b1])).run Try.prog w = .ok true w := by
 obtain ⟨rfl, rfl⟩ := h
 simp [go_sem, Op.equal, Op.maxDepth]
theorem eqRes_f {a0 a1 b0 b1 : Int} (h : ¬ (a0 = b0 ∧ a1 = b1)) (w : World) : (Op.equal 49 (.agg #[K.iv a0, .int .u32 a1]) (.agg #[K.iv b0, .int .u32 b1])).run Try.prog w = .ok false w := by
 by_cases h0 : a0 = b0 <;> by_cases h1 : a1 = b1 <;> first | (exfalso; exact h ⟨h0, h1⟩) | simp [go_sem, Op.equal, Op.maxDepth, h0, h1]
theorem eqPair_t {a0 a1 b0 b1 : Int} (h : a0 = b0 ∧ a1 = b1) (w : World) : (Op.equal 59 (.agg #[.int .u32 a0, .int .u32 a1]) (.agg #[.int .u32 b0, .int .u32 b1])).run Try.prog w = .ok true w := by
 obtain ⟨rfl, rfl⟩ := h
 simp [go_sem, Op.equal, Op.maxDepth]
theorem eqPair_f {a0 a1 b0 b1 : Int} (h : ¬ (a0 = b0 ∧ a1 = b1)) (w : World) : (Op.equal 59 (.agg #[.int .u32 a0, .int .u32 a1]) (.agg #[.int .u32 b0, .int .u32 b1])).run Try.prog w = .ok false w := by
 by_cases h0 : a0 = b0 <;> by_cases h1 : a1 = b1 <;> first | (exfalso; exact h ⟨h0, h1⟩) | simp [go_sem, Op.equal, Op.maxDepth, h0, h1]
def upTo {α : Type} (d : α) (xs ys : List α) (k : Nat) : Prop := ∀ j, j < k → xs.getD j d = ys.getD j d
theorem upTo_zero {α : Type} (d : α) (xs ys : List α) : upTo d xs ys 0 := fun _ h => by omega
theorem upTo_succ {α : Type} {d : α} {xs ys : List α} {k : Nat} (h : upTo d xs ys k) (he : xs.getD k d = ys.getD k d) : upTo d xs ys (k + 1) := fun j hj => by
 rcases Nat.lt_or_ge j k with h' | h'
 ·exact h j h'
 ·rw [show j = k by omega]; exact he
theorem upTo_eq {α : Type} {d : α} {xs ys : List α} (hl : xs.length = ys.length) {k : Nat} (hk : k = xs.length) (h : upTo d xs ys k) : xs = ys := by
 subst hk
 apply List.ext_getElem hl
 intro j h1 h2
 have := h j h1
 simpa [h1, h2] using this
theorem len_ne {α : Type} {xs ys : List α} (h : ¬ ((xs.length : Nat) : Int) = ((ys.length : Nat) : Int)) : ¬ xs = ys := fun e => h (by rw [e])
theorem get_neU {xs ys : List Int} {k : Nat} (h : ¬ xs.getD k 0 = ys.getD k 0) : ¬ xs = ys := fun e => h (by rw [e])
theorem get_neP {xs ys : List PairM} {k : Nat} (h : ¬ ((xs.getD k p0).key = (ys.getD k p0).key ∧ (xs.getD k p0).val = (ys.getD k p0).val)) : ¬ xs = ys := fun e => h (by rw [e]; exact ⟨rfl, rfl⟩)
theorem pair_eq {p q : PairM} (h : p.key = q.key ∧ p.val = q.val) : p = q := by cases p; cases q; simp_all
set_option maxHeartbeats 1000000 in
set_option maxRecDepth 100000 in
theorem eqU_ok (a a' : Option Addr) (cap cap' : Nat) (xs ys : List Int) (w0 : World) (hm : xs.length ≤ 1000000) (hx : RU32 w0 a xs) (hy : RU32 w0 a' ys) :
  K.KC Try.prog 32 #[.slice a xs.length cap, .slice a' ys.length cap'] w0 (fun v w' => v = .bool (decide (xs = ys)) ∧ K.Chg K.No w0 w') := by
 refine K.KC.mk (n := 26) Try.func32 rfl rfl [.slice a xs.length cap, .slice a' ys.length cap'] rfl rfl ?_
 refine K.s ?_
 refine K.g (K.q [.bool false] (K.z (K.t (K.s (K.s ?_)))))
 refine K.g (K.q [.slice a xs.length cap] ?_)
 refine K.a (K.QR.len (P := Try.prog) rfl rfl Try.underlying27) ?_
 refine K.q [.slice a' ys.length cap'] ?_
 refine K.a (K.QR.len (P := Try.prog) rfl rfl Try.underlying27) ?_
 by_cases h_1 : (((xs.length : Nat) : Int) : Int) = (((ys.length : Nat) : Int) : Int)
 ·
  refine K.xn (((xs.length : Nat) : Int) : Int) (((ys.length : Nat) : Int) : Int) h_1 ?_
  refine K.z (K.t (K.f (K.k (K.t (K.s (K.s ?_))))))
  refine K.g (K.q [.slice a xs.length cap] ?_)
  refine K.a (K.QR.len (P := Try.prog) rfl rfl Try.underlying27) ?_
  refine K.q [K.iv 0] (K.z (K.t ?_))
  refine K.KW.block ?_
  refine K.KW.loop (fun m_ F_ w_2 => ∃ (k : Nat), m_ = xs.length - k ∧ K.Sl F_ [(0, .slice a xs.length cap), (1, .slice a' ys.length cap'), (12, K.iv ((xs.length : Nat) : Int)), (13, K.iv ((k : Nat) : Int)), (26, undef)] ∧ k ≤ xs.length ∧ xs.length = ys.length ∧ upTo 0 xs ys k ∧ K.Chg K.No w0 w_2) ((fun (k : Nat) => xs.length - k) 0) ?_ ?_
  ·
   exact ⟨0, rfl, ⟨by rfl, by rfl, by rfl, by rfl, by rfl, trivial⟩, (by omega), (by omega), (upTo_zero _ _ _), (K.Chg.refl _)⟩
  ·
   intro m_3 F_4 w_2 hI
   obtain ⟨k, rfl, sl_5, p_7, p_8, p_9, c_6⟩ := hI
   rw [← K.Sl.puts sl_5]; clear sl_5
   have z_10 := c_6.size
   refine K.s ?_
   refine K.g ?_
   by_cases h_11 : (((k : Nat) : Int) : Int) < (((xs.length : Nat) : Int) : Int)
   ·
    refine K.y ((((k : Nat) : Int) : Int) < (((xs.length : Nat) : Int) : Int)) h_11 ?_
    refine K.z (K.t (K.s (K.h (K.k (K.t (K.s ?_))))))
    refine K.KW.block ?_
    refine K.s ?_
    refine K.g (K.q [K.iv ((k : Nat) : Int), K.iv ((k : Nat) : Int)] (K.z (K.t (K.s ?_))))
    obtain ⟨b_12, of_13, rfl, _⟩ := hx.at_ (by omega)
    obtain ⟨b_14, of_15, rfl, _⟩ := hy.at_ (by omega)
    refine K.KW.drawn (fun w => K.Chg K.No w0 w) (by kernel_rfl) ?_
    intro w_16 e_17 hs_18
    have c_20 := c_6.no e_17
    have z_21 := c_20.size
    have zz_22 := e_17.size
    have hS_19 : (fun w => K.Chg K.No w0 w) w_16 := c_20
    refine K.p 0 rfl (.slice (some ⟨b_12, of_13, none⟩) xs.length cap) hS_19 ?_
    refine K.p 1 rfl (K.iv ((k : Nat) : Int)) hS_19 ?_
    refine K.m 2 rfl (fun w hS => K.QR.ix (of_13 + k * 1) 1 rfl rfl rfl Try.underlying27 (by kernel_rfl) (by omega) (by first | (simp; done) | omega | (simp; omega))) hS_19 ?_
    refine K.o_ 3 rfl (.int .u32 (xs.getD k 0)) (fun w hS => (hS.cell (hx.ld k (by omega) 0 _ rfl) id)) hS_19 ?_
    refine K.p 4 rfl (.slice (some ⟨b_14, of_15, none⟩) ys.length cap') hS_19 ?_
    refine K.b 5 rfl (K.iv ((k : Nat) : Int)) hS_19 ?_
    refine K.c 6 rfl (K.QR.ix (of_15 + k * 1) 1 rfl rfl rfl Try.underlying27 (by kernel_rfl) (by omega) (by first | (simp; done) | omega | (simp; omega))) hS_19 ?_
    refine K.c 7 rfl (K.QR.ld1 (v := .int .u32 (ys.getD k 0)) rfl rfl (by kernel_rfl) (c_20.cell (hy.ld k (by omega) 0 _ rfl) id)) hS_19 ?_
    by_cases h_23 : (xs.getD k 0 : Int) = (ys.getD k 0 : Int)
    ·
     refine K.c 8 rfl (K.QR.nice (v := .bool ((xs.getD k 0 : Int) != (ys.getD k 0 : Int))) (by kernel_rfl) (congrArg Value.bool (bne_eq_false_iff_eq.2 h_23))) hS_19 ?_
     refine K.DW.done (by kernel_rfl) ?_
     refine K.t (K.f (K.k ?_))
     refine K.blk_normal ?_
     refine K.t ?_
     refine K.g ?_
     refine K.a (K.QR.n64 ((((k : Nat) : Int) : Int) + (1 : Int)) ((k + 1 : Nat) : Int) (by kernel_rfl) (by omega)) ?_
     refine K.q [K.iv ((k + 1 : Nat) : Int)] (K.z (K.t ?_))
     refine ⟨_, ?_, k + 1, rfl, ⟨by rfl, by rfl, by rfl, by rfl, by rfl, trivial⟩, (by omega), (by omega), (upTo_succ (by assumption) (by assumption)), c_20⟩
     omega
    ·
     refine K.c 8 rfl (K.QR.nice (v := .bool ((xs.getD k 0 : Int) != (ys.getD k 0 : Int))) (by kernel_rfl) (congrArg Value.bool (bne_iff_ne.2 h_23))) hS_19 ?_
     refine K.DW.done (by kernel_rfl) ?_
     refine K.t (K.h (K.s ?_))
     refine K.g (K.q [.bool false] (K.z (K.t (K.r ?_))))
     refine K.blk_ret ?_
     refine K.u (K.u ?_)
     refine K.blk_ret ?_
     refine K.u ?_
     refine ⟨.inr rfl, rfl, (.bool false), K.res1 rfl rfl, ?_⟩
     exact ⟨congrArg Value.bool (by first | exact (decide_eq_true (upTo_eq (d := 0) (xs := xs) (ys := ys) (k := k) (by assumption) (by omega) (by assumption))).symm | exact (decide_eq_false (len_ne (by assumption))).symm | exact (decide_eq_false (get_neU (by assumption))).symm), c_20⟩
   ·
    refine K.x ((((k : Nat) : Int) : Int) < (((xs.length : Nat) : Int) : Int)) h_11 ?_
    refine K.z (K.t (K.s (K.f ?_)))
    refine K.KW.exit ?_
    refine K.thn_exit ?_
    refine K.thn_exit ?_
    refine K.blk_hit ?_
    refine K.t (K.s ?_)
    refine K.g (K.q [.bool true] (K.z (K.t (K.r ?_))))
    refine ⟨.inr rfl, rfl, (.bool true), K.res1 rfl rfl, ?_⟩
    exact ⟨congrArg Value.bool (by first | exact (decide_eq_true (upTo_eq (d := 0) (xs := xs) (ys := ys) (k := k) (by assumption) (by omega) (by assumption))).symm | exact (decide_eq_false (len_ne (by assumption))).symm | exact (decide_eq_false (get_neU (by assumption))).symm), c_6⟩
 ·
  refine K.yn (((xs.length : Nat) : Int) : Int) (((ys.length : Nat) : Int) : Int) h_1 ?_
  refine K.z (K.t (K.h (K.s ?_)))
  refine K.g (K.q [.bool false] (K.z (K.t (K.r (K.u ?_)))))
  refine ⟨.inr rfl, rfl, (.bool false), K.res1 rfl rfl, ?_⟩
  exact ⟨congrArg Value.bool (by first | exact (decide_eq_true (upTo_eq (d := 0) (xs := xs) (ys := ys) (k := k) (by assumption) (by omega) (by assumption))).symm | exact (decide_eq_false (len_ne (by assumption))).symm | exact (decide_eq_false (get_neU (by assumption))).symm), (K.Chg.refl _)⟩
set_option maxHeartbeats 1000000 in
set_option maxRecDepth 100000 in
theorem eqP_ok (a a' : Option Addr) (cap cap' : Nat) (xs ys : List PairM) (w0 : World) (hm : xs.length ≤ 1000000) (hx : RPr w0 a xs) (hy : RPr w0 a' ys) :
  K.KC Try.prog 33 #[.slice a xs.length cap, .slice a' ys.length cap'] w0 (fun v w' => v = .bool (decide (xs = ys)) ∧ K.Chg K.No w0 w') := by
 refine K.KC.mk (n := 26) Try.func33 rfl rfl [.slice a xs.length cap, .slice a' ys.length cap'] rfl rfl ?_
 refine K.s ?_
 refine K.g (K.q [.bool false] (K.z (K.t (K.s (K.s ?_)))))
 refine K.g (K.q [.slice a xs.length cap] ?_)
 refine K.a (K.QR.len (P := Try.prog) rfl rfl Try.underlying28) ?_
 refine K.q [.slice a' ys.length cap'] ?_
 refine K.a (K.QR.len (P := Try.prog) rfl rfl Try.underlying28) ?_
 by_cases h_1 : (((xs.length : Nat) : Int) : Int) = (((ys.length : Nat) : Int) : Int)
 ·
  refine K.xn (((xs.length : Nat) : Int) : Int) (((ys.length : Nat) : Int) : Int) h_1 ?_
  refine K.z (K.t (K.f (K.k (K.t (K.s (K.s ?_))))))
  refine K.g (K.q [.slice a xs.length cap] ?_)
  refine K.a (K.QR.len (P := Try.prog) rfl rfl Try.underlying28) ?_
  refine K.q [K.iv 0] (K.z (K.t ?_))
  refine K.KW.block ?_
  refine K.KW.loop (fun m_ F_ w_2 => ∃ (k : Nat), m_ = xs.length - k ∧ K.Sl F_ [(0, .slice a xs.length cap), (1, .slice a' ys.length cap'), (12, K.iv ((xs.length : Nat) : Int)), (13, K.iv ((k : Nat) : Int)), (26, undef)] ∧ k ≤ xs.length ∧ xs.length = ys.length ∧ upTo p0 xs ys k ∧ K.Chg K.No w0 w_2) ((fun (k : Nat) => xs.length - k) 0) ?_ ?_
  ·
   exact ⟨0, rfl, ⟨by rfl, by rfl, by rfl, by rfl, by rfl, trivial⟩, (by omega), (by omega), (upTo_zero _ _ _), (K.Chg.refl _)⟩
  ·
   intro m_3 F_4 w_2 hI
   obtain ⟨k, rfl, sl_5, p_7, p_8, p_9, c_6⟩ := hI
   rw [← K.Sl.puts sl_5]; clear sl_5
   have z_10 := c_6.size
   refine K.s ?_
   refine K.g ?_
   by_cases h_11 : (((k : Nat) : Int) : Int) < (((xs.length : Nat) : Int) : Int)
   ·
    refine K.y ((((k : Nat) : Int) : Int) < (((xs.length : Nat) : Int) : Int)) h_11 ?_
    refine K.z (K.t (K.s (K.h (K.k (K.t (K.s ?_))))))
    refine K.KW.block ?_
    refine K.s ?_
    refine K.g (K.q [K.iv ((k : Nat) : Int), K.iv ((k : Nat) : Int)] (K.z (K.t (K.s ?_))))
    obtain ⟨b_12, of_13, rfl, _⟩ := hx.at_ (by omega)
    obtain ⟨b_14, of_15, rfl, _⟩ := hy.at_ (by omega)
    refine K.KW.drawn (fun w => K.Chg K.No w0 w) (by kernel_rfl) ?_
    intro w_16 e_17 hs_18
    have c_20 := c_6.no e_17
    have z_21 := c_20.size
    have zz_22 := e_17.size
    have hS_19 : (fun w => K.Chg K.No w0 w) w_16 := c_20
    refine K.p 0 rfl (.slice (some ⟨b_12, of_13, none⟩) xs.length cap) hS_19 ?_
    refine K.p 1 rfl (K.iv ((k : Nat) : Int)) hS_19 ?_
    refine K.m 2 rfl (fun w hS => K.QR.ix (of_13 + k * 2) 2 rfl rfl rfl Try.underlying28 (by kernel_rfl) (by omega) (by first | (simp; done) | omega | (simp; omega))) hS_19 ?_
    refine K.m 3 rfl (fun w hS => K.QR.ldN [.int .u32 ((xs.getD k p0).key), .int .u32 ((xs.getD k p0).val)] rfl rfl (by kernel_rfl) (by kernel_rfl) (K.cells (K.cl (hS.cell (hx.ld k (by omega) 0 _ rfl) id) (K.cl (hS.cell (hx.ld k (by omega) 1 _ rfl) id) K.cl0)))) hS_19 ?_
    refine K.p 4 rfl (.slice (some ⟨b_14, of_15, none⟩) ys.length cap') hS_19 ?_
    refine K.b 5 rfl (K.iv ((k : Nat) : Int)) hS_19 ?_
    refine K.c 6 rfl (K.QR.ix (of_15 + k * 2) 2 rfl rfl rfl Try.underlying28 (by kernel_rfl) (by omega) (by first | (simp; done) | omega | (simp; omega))) hS_19 ?_
    refine K.c 7 rfl (K.QR.ldN [.int .u32 ((ys.getD k p0).key), .int .u32 ((ys.getD k p0).val)] rfl rfl (by kernel_rfl) (by kernel_rfl) (K.cells (K.cl (c_20.cell (hy.ld k (by omega) 0 _ rfl) id) (K.cl (c_20.cell (hy.ld k (by omega) 1 _ rfl) id) K.cl0)))) hS_19 ?_
    by_cases h_23 : ((xs.getD k p0).key : Int) = (ys.getD k p0).key ∧ ((xs.getD k p0).val : Int) = (ys.getD k p0).val
    ·
     refine K.c 8 rfl (K.QR.neS (by kernel_rfl) rfl rfl rfl (eqPair_t h_23)) hS_19 ?_
     refine K.DW.done (by kernel_rfl) ?_
     refine K.t (K.f (K.k ?_))
     refine K.blk_normal ?_
     refine K.t ?_
     refine K.g ?_
     refine K.a (K.QR.n64 ((((k : Nat) : Int) : Int) + (1 : Int)) ((k + 1 : Nat) : Int) (by kernel_rfl) (by omega)) ?_
     refine K.q [K.iv ((k + 1 : Nat) : Int)] (K.z (K.t ?_))
     refine ⟨_, ?_, k + 1, rfl, ⟨by rfl, by rfl, by rfl, by rfl, by rfl, trivial⟩, (by omega), (by omega), (upTo_succ (by assumption) (by exact pair_eq (by assumption))), c_20⟩
     omega
    ·
     refine K.c 8 rfl (K.QR.neS (by kernel_rfl) rfl rfl rfl (eqPair_f h_23)) hS_19 ?_
     refine K.DW.done (by kernel_rfl) ?_
     refine K.t (K.h (K.s ?_))
     refine K.g (K.q [.bool false] (K.z (K.t (K.r ?_))))
     refine K.blk_ret ?_
     refine K.u (K.u ?_)
     refine K.blk_ret ?_
     refine K.u ?_
     refine ⟨.inr rfl, rfl, (.bool false), K.res1 rfl rfl, ?_⟩
     exact ⟨congrArg Value.bool (by first | exact (decide_eq_true (upTo_eq (d := p0) (xs := xs) (ys := ys) (k := k) (by assumption) (by omega) (by assumption))).symm | exact (decide_eq_false (len_ne (by assumption))).symm | exact (decide_eq_false (get_neP (by assumption))).symm), c_20⟩
   ·
    refine K.x ((((k : Nat) : Int) : Int) < (((xs.length : Nat) : Int) : Int)) h_11 ?_
    refine K.z (K.t (K.s (K.f ?_)))
    refine K.KW.exit ?_
    refine K.thn_exit ?_
    refine K.thn_exit ?_
    refine K.blk_hit ?_
    refine K.t (K.s ?_)
    refine K.g (K.q [.bool true] (K.z (K.t (K.r ?_))))
    refine ⟨.inr rfl, rfl, (.bool true), K.res1 rfl rfl, ?_⟩
    exact ⟨congrArg Value.bool (by first | exact (decide_eq_true (upTo_eq (d := p0) (xs := xs) (ys := ys) (k := k) (by assumption) (by omega) (by assumption))).symm | exact (decide_eq_false (len_ne (by assumption))).symm | exact (decide_eq_false (get_neP (by assumption))).symm), c_6⟩
 ·
  refine K.yn (((xs.length : Nat) : Int) : Int) (((ys.length : Nat) : Int) : Int) h_1 ?_
  refine K.z (K.t (K.h (K.s ?_)))
  refine K.g (K.q [.bool false] (K.z (K.t (K.r (K.u ?_)))))
  refine ⟨.inr rfl, rfl, (.bool false), K.res1 rfl rfl, ?_⟩
  exact ⟨congrArg Value.bool (by first | exact (decide_eq_true (upTo_eq (d := p0) (xs := xs) (ys := ys) (k := k) (by assumption) (by omega) (by assumption))).symm | exact (decide_eq_false (len_ne (by assumption))).symm | exact (decide_eq_false (get_neP (by assumption))).symm), (K.Chg.refl _)⟩
set_option maxHeartbeats 1000000 in
set_option maxRecDepth 100000 in
theorem same8_ok (q s m q' s' m' : Option Addr) (cq cs cm cq' cs' cm' : Nat) (qa sa qb sb : List Int) (ma mb : List PairM) (w0 : World) (h1 : qa.length ≤ 1000000) (h2 : sa.length ≤ 1000000) (h3 : ma.length ≤ 1000000) (x1 : RU32 w0 q qa) (x2 : RU32 w0 s sa) (x3 : RPr w0 m ma) (y1 : RU32 w0 q' qb) (y2 : RU32 w0 s' sb) (y3 : RPr w0 m' mb) :
  K.KC Try.prog 17 #[.agg #[.slice q qa.length cq, .slice s sa.length cs, .slice m ma.length cm], .agg #[.slice q' qb.length cq', .slice s' sb.length cs', .slice m' mb.length cm']] w0 (fun v w' => v = .bool (decide (qa = qb ∧ sa = sb ∧ ma = mb)) ∧ K.Chg K.No w0 w') := by
 refine K.KC.mk (n := 24) Try.func17 rfl rfl [.agg #[.slice q qa.length cq, .slice s sa.length cs, .slice m ma.length cm], .agg #[.slice q' qb.length cq', .slice s' sb.length cs', .slice m' mb.length cm']] rfl rfl ?_
 refine K.s ?_
 refine K.g ?_
 refine K.l (K.OW.new (t := 30) rfl (fun r => K.pa r) [.slice q qa.length cq, .slice s sa.length cs, .slice m ma.length cm] (by kernel_rfl) ?_)
 intro w_1 r_2 hr_3 e_4 hs_5 b_6
 have c_7 := e_4
 have z_8 := c_7.size
 have zz_9 := e_4.size
 refine K.l (K.OW.new (t := 30) rfl (fun r => K.pa r) [.slice q' qb.length cq', .slice s' sb.length cs', .slice m' mb.length cm'] (by kernel_rfl) ?_)
 intro w_10 r_11 hr_12 e_13 hs_14 b_15
 have c_16 := c_7.no e_13
 have z_17 := c_16.size
 have zz_18 := e_13.size
 have f_19 := b_6.no e_13
 refine K.q [.bool false] (K.z (K.t (K.s ?_)))
 refine K.g (K.q [K.pa r_2] ?_)
 refine K.d (.slice q qa.length cq) (f_19.cell rfl) ?_
 refine K.q [K.pa r_11] ?_
 refine K.d (.slice q' qb.length cq') (b_15.cell rfl) ?_
 refine K.l (K.OW.call rfl [.slice q qa.length cq, .slice q' qb.length cq'] rfl rfl (by kernel_rfl) (eqU_ok _ _ _ _ qa qb _ (by omega) (x1.no c_16) (y1.no c_16)) ?_)
 rintro v_23 w_21 ⟨hv_22, c_20⟩
 have c_24 := c_16.no c_20
 have z_25 := c_24.size
 have zz_26 := c_20.size
 have f_27 := f_19.no c_20
 have f_28 := b_15.no c_20
 rcases Bool.eq_false_or_eq_true (decide (qa = qb)) with hb_29 | hb_29
 ·
  rw [hb_29] at hv_22; subst hv_22
  have hp_30 := of_decide_eq_true hb_29
  refine K.q [.bool true, .pointer (some ⟨r_2, 1, none⟩)] ?_
  refine K.d (.slice s sa.length cs) (f_27.cell rfl) ?_
  refine K.q [.pointer (some ⟨r_11, 1, none⟩)] ?_
  refine K.d (.slice s' sb.length cs') (f_28.cell rfl) ?_
  refine K.l (K.OW.call rfl [.slice s sa.length cs, .slice s' sb.length cs'] rfl rfl (by kernel_rfl) (eqU_ok _ _ _ _ sa sb _ (by omega) (x2.no c_24) (y2.no c_24)) ?_)
  rintro v_34 w_32 ⟨hv_33, c_31⟩
  have c_35 := c_24.no c_31
  have z_36 := c_35.size
  have zz_37 := c_31.size
  have f_38 := f_27.no c_31
  have f_39 := f_28.no c_31
  rcases Bool.eq_false_or_eq_true (decide (sa = sb)) with hb_40 | hb_40
  ·
   rw [hb_40] at hv_33; subst hv_33
   have hp_41 := of_decide_eq_true hb_40
   refine K.q [.bool true, .bool true, .pointer (some ⟨r_2, 2, none⟩)] ?_
   refine K.d (.slice m ma.length cm) (f_38.cell rfl) ?_
   refine K.q [.pointer (some ⟨r_11, 2, none⟩)] ?_
   refine K.d (.slice m' mb.length cm') (f_39.cell rfl) ?_
   refine K.l (K.OW.call rfl [.slice m ma.length cm, .slice m' mb.length cm'] rfl rfl (by kernel_rfl) (eqP_ok _ _ _ _ ma mb _ (by omega) (x3.no c_35) (y3.no c_35)) ?_)
   rintro v_45 w_43 ⟨hv_44, c_42⟩
   have c_46 := c_35.no c_42
   have z_47 := c_46.size
   have zz_48 := c_42.size
   have f_49 := f_38.no c_42
   have f_50 := f_39.no c_42
   rcases Bool.eq_false_or_eq_true (decide (ma = mb)) with hb_51 | hb_51
   ·
    rw [hb_51] at hv_44; subst hv_44
    have hp_52 := of_decide_eq_true hb_51
    refine K.q [.bool true, .bool true] (K.z (K.t (K.r ?_)))
    refine ⟨.inr rfl, rfl, (.bool true), K.res1 rfl rfl, ?_⟩
    exact ⟨congrArg Value.bool (by first | exact (decide_eq_true ⟨by assumption, by assumption, by assumption⟩).symm | exact (decide_eq_false (fun h => absurd h.1 (by assumption))).symm | exact (decide_eq_false (fun h => absurd h.2.1 (by assumption))).symm | exact (decide_eq_false (fun h => absurd h.2.2 (by assumption))).symm), c_46⟩
   ·
    rw [hb_51] at hv_44; subst hv_44
    have hp_53 := of_decide_eq_false hb_51
    refine K.q [.bool false, .bool false] (K.z (K.t (K.r ?_)))
    refine ⟨.inr rfl, rfl, (.bool false), K.res1 rfl rfl, ?_⟩
    exact ⟨congrArg Value.bool (by first | exact (decide_eq_true ⟨by assumption, by assumption, by assumption⟩).symm | exact (decide_eq_false (fun h => absurd h.1 (by assumption))).symm | exact (decide_eq_false (fun h => absurd h.2.1 (by assumption))).symm | exact (decide_eq_false (fun h => absurd h.2.2 (by assumption))).symm), c_46⟩
  ·
   rw [hb_40] at hv_33; subst hv_33
   have hp_54 := of_decide_eq_false hb_40
   refine K.q [.bool false, .bool false] (K.n_ (K.n_ (K.n_ (K.n_ (K.n_ (K.q [.bool false, .bool false] (K.z (K.t (K.r ?_)))))))))
   refine ⟨.inr rfl, rfl, (.bool false), K.res1 rfl rfl, ?_⟩
   exact ⟨congrArg Value.bool (by first | exact (decide_eq_true ⟨by assumption, by assumption, by assumption⟩).symm | exact (decide_eq_false (fun h => absurd h.1 (by assumption))).symm | exact (decide_eq_false (fun h => absurd h.2.1 (by assumption))).symm | exact (decide_eq_false (fun h => absurd h.2.2 (by assumption))).symm), c_35⟩
 ·
  rw [hb_29] at hv_22; subst hv_22
  have hp_55 := of_decide_eq_false hb_29
  refine K.q [.bool false] (K.n_ (K.n_ (K.n_ (K.n_ (K.n_ (K.q [.bool false, .bool false] (K.n_ (K.n_ (K.n_ (K.n_ (K.n_ (K.q [.bool false, .bool false] ?_))))))))))))
  refine K.z (K.t (K.r ?_))
  refine ⟨.inr rfl, rfl, (.bool false), K.res1 rfl rfl, ?_⟩
  exact ⟨congrArg Value.bool (by first | exact (decide_eq_true ⟨by assumption, by assumption, by assumption⟩).symm | exact (decide_eq_false (fun h => absurd h.1 (by assumption))).symm | exact (decide_eq_false (fun h => absurd h.2.1 (by assumption))).symm | exact (decide_eq_false (fun h => absurd h.2.2 (by assumption))).symm), c_24⟩
end Go.Proofs.Ytnehocjmgnhhhaa
