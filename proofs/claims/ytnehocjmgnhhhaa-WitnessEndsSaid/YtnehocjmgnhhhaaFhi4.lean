import Derived.Test.YtnehocjmgnhhhaaFhi3
import Derived.Test.YtnehocjmgnhhhaaKx
import Derived.Test.YtnehocjmgnhhhaaKn
/- Histories: which are right. -/
namespace Go.Proofs.Ytnehocjmgnhhhaa
open Go.RowKit
set_option linter.unusedVariables false
attribute [local irreducible] K.KW K.RW K.DW K.OW K.QR K.KC
def callA (c : CallM) : Value := .agg (cCall c).toArray
def lastH (L : List CallM) : Nat → Int → Option CallM
 | 0, _ => none
 | j + 1, a => if a = (L.getD j call0).th then some (L.getD j call0) else lastH L j a
theorem lastH_at {L : List CallM} {k : Nat} : ∀ {i : Nat} {a : Int}, k < i → (L.getD k call0).th = a → (∀ q, k < q → q < i → ¬ (L.getD q call0).th = a) → lastH L i a = some (L.getD k call0)
 | 0, _, h, _, _ => by omega
 | i + 1, a, h, h1, h2 => by
  show (if a = (L.getD i call0).th then _ else _) = _
  by_cases hk : k = i
  ·subst hk; rw [if_pos h1.symm]
  ·rw [if_neg (fun e => h2 i (by omega) (by omega) e.symm)]
   exact lastH_at (by omega) h1 fun q q1 q2 => h2 q q1 (by omega)
theorem lastH_none {L : List CallM} : ∀ {i : Nat} {a : Int}, (∀ q, q < i → ¬ (L.getD q call0).th = a) → lastH L i a = none
 | 0, _, _ => rfl
 | i + 1, a, h => by
  show (if a = (L.getD i call0).th then _ else _) = _
  rw [if_neg (fun e => h i (by omega) e.symm)]
  exact lastH_none fun q hq => h q (by omega)
def rtA (L : List CallM) (i : Nat) : Prop := mayH (L.getD i call0) ∧ (i = 0 ∨ (L.getD (i - 1) call0).beg ≤ (L.getD i call0).beg) ∧ ∀ c, lastH L i (L.getD i call0).th = some c → ¬ (c.cr = false ∧ (L.getD i call0).beg < c.en)
def rightH (L : List CallM) : Prop := ∀ i, i < L.length → rtA L i
set_option maxHeartbeats 8000000 in
set_option maxRecDepth 100000 in
theorem hright_ok (w0 : World) (a : Option Addr) (cap : Nat) (L : List CallM) (hm : L.length ≤ 1000000) (gx : K.Cs) (hx : ∀ w, K.Sat w0 [gx] w → K.RowE w a L.length 11 (fun i => cCall (L.getD i call0))) :
  K.GC Try.prog w0 44 #[.slice a L.length cap] [gx] (fun v post => post = [gx] ∧ ((rightH L ∧ v = .bool true) ∨ (¬ (rightH L) ∧ v = .bool false))) := by
 refine K.GC.mk (n := 59) Try.func44 rfl rfl [.slice a L.length cap] rfl rfl ?_
 intro fr w hS
 replace hS : K.Sat w0 [gx, fr] w := hS
 refine K.s (K.g (K.q [.bool false] (K.z (K.t (K.s (K.g ?_))))))
 refine K.l (K.OW.gmap callA hS ?_)
 clear hS; intro w r_1 g_2 hg_3 hS
 refine K.q [.map (some r_1)] (K.z (K.t (K.s (K.s (K.g (K.q [.slice a L.length cap] ?_))))))
 refine K.a (K.QR.len (P := Try.prog) rfl rfl Try.underlying22) ?_
 refine K.q [K.iv 0] (K.z (K.t ?_))
 refine K.KW.block ?_
 refine K.KW.loop (fun m_ F_ w_ => ∃ (j : Nat) (gm1 : K.Cs), m_ = L.length - j ∧ K.Sl F_ [(0, .slice a L.length cap), (3, .map (some r_1)), (9, .slice a L.length cap), (10, K.iv ((L.length : Nat) : Int)), (11, K.iv ((j : Nat) : Int)), (59, undef)] ∧ j ≤ L.length ∧ (∀ q, q < j → rtA L q) ∧ K.MapG callA gm1 r_1 (lastH L j) ∧ K.Sat w0 [gm1, gx, fr] w_) ((fun (j : Nat) => L.length - j) 0) ?_ ?_
 ·
  exact ⟨0, g_2, rfl, ⟨by rfl, by rfl, by rfl, by rfl, by rfl, by rfl, trivial⟩, (by omega), (fun q hq => by omega), hg_3, hS.pick [0, 1, 2]⟩
 ·
  clear hS
  intro m_4 F_5 w hI
  obtain ⟨j, gm1, rfl, sl_6, p_7, hrt, x_8, hS⟩ := hI
  rw [← K.Sl.puts sl_6]; clear sl_6
  refine K.s (K.g ?_)
  by_cases h_9 : (((j : Nat) : Int) : Int) < (((L.length : Nat) : Int) : Int)
  ·
   refine K.y ((((j : Nat) : Int) : Int) < (((L.length : Nat) : Int) : Int)) h_9 ?_
   refine K.z (K.t (K.s (K.h (K.k (K.t (K.s ?_))))))
   refine K.KW.block ?_
   refine K.s ?_
   obtain ⟨b_10, of_11, rfl, _⟩ := (hx _ (hS.pick [1])).at_ (by omega)
   refine K.g (K.q [K.iv ((j : Nat) : Int)] ?_)
   refine K.a (K.QR.ix (of_11 + j * 11) 11 rfl rfl rfl Try.underlying22 (by kernel_rfl) (by omega) (by first | (simp; done) | omega | (simp; omega))) ?_
   refine K.a (K.QR.ldN [K.iv ((L.getD j call0).th), K.iv ((L.getD j call0).ok), .int .u32 ((L.getD j call0).key), .int .u32 ((L.getD j call0).val), K.iv ((L.getD j call0).rk), .int .u32 ((L.getD j call0).rv), K.iv ((L.getD j call0).beg), K.iv ((L.getD j call0).en), K.iv ((L.getD j call0).wh), .bool ((L.getD j call0).cr), .bool ((L.getD j call0).kp)] rfl rfl (by kernel_rfl) (by kernel_rfl) (K.cells (K.cl ((hx _ (hS.pick [1])).ld j (by omega) 0 _ rfl) (K.cl ((hx _ (hS.pick [1])).ld j (by omega) 1 _ rfl) (K.cl ((hx _ (hS.pick [1])).ld j (by omega) 2 _ rfl) (K.cl ((hx _ (hS.pick [1])).ld j (by omega) 3 _ rfl) (K.cl ((hx _ (hS.pick [1])).ld j (by omega) 4 _ rfl) (K.cl ((hx _ (hS.pick [1])).ld j (by omega) 5 _ rfl) (K.cl ((hx _ (hS.pick [1])).ld j (by omega) 6 _ rfl) (K.cl ((hx _ (hS.pick [1])).ld j (by omega) 7 _ rfl) (K.cl ((hx _ (hS.pick [1])).ld j (by omega) 8 _ rfl) (K.cl ((hx _ (hS.pick [1])).ld j (by omega) 9 _ rfl) (K.cl ((hx _ (hS.pick [1])).ld j (by omega) 10 _ rfl) K.cl0))))))))))))) ?_
   refine K.l (K.OW.gnew 51 [K.iv 0, K.iv 0, .int .u32 0, .int .u32 0, K.iv 0, .int .u32 0, K.iv 0, K.iv 0, K.iv 0, .bool false, .bool false] hS ?_)
   clear hS; intro w r_12 g_13 hg_14 hS
   refine K.q [K.iv ((j : Nat) : Int)] ?_
   refine K.l (K.OW.gst 0 [K.iv ((L.getD j call0).th), K.iv ((L.getD j call0).ok), .int .u32 ((L.getD j call0).key), .int .u32 ((L.getD j call0).val), K.iv ((L.getD j call0).rk), .int .u32 ((L.getD j call0).rv), K.iv ((L.getD j call0).beg), K.iv ((L.getD j call0).en), K.iv ((L.getD j call0).wh), .bool ((L.getD j call0).cr), .bool ((L.getD j call0).kp)] _ hS hg_14 ?_)
   clear hS; intro w g_15 hg_16 hS
   replace hS : K.Sat w0 [g_15, gm1, gx, fr] w := hS
   refine K.z (K.t (K.s ?_))
   obtain ⟨es1, ck1, hge, hMH⟩ := id x_8
   rcases hl : lastH L j (L.getD j call0).th with _ | c
   ·
    refine K.g (K.q [.map (some r_1), K.pa r_12] ?_)
    refine K.d (K.iv ((L.getD j call0).th)) ((hS.blk 0 rfl hg_16).cell rfl) ?_
    refine K.a (K.QR.mlook (c := callA) (M := lastH L j) (.tuple #[.agg #[K.iv 0, K.iv 0, .int .u32 0, .int .u32 0, K.iv 0, .int .u32 0, K.iv 0, K.iv 0, K.iv 0, .bool false, .bool false], .bool false]) rfl rfl rfl Try.underlying94 Try.underlying3 (show (zeroValue 51).run Try.prog w = .ok (.agg #[K.iv 0, K.iv 0, .int .u32 0, .int .u32 0, K.iv 0, .int .u32 0, K.iv 0, K.iv 0, K.iv 0, .bool false, .bool false]) w by kernel_rfl) (hS.ob 1 rfl hge rfl).1 hMH (by rw [hl] <;> rfl)) ?_
    refine K.q [.tuple #[.agg #[K.iv 0, K.iv 0, .int .u32 0, .int .u32 0, K.iv 0, .int .u32 0, K.iv 0, K.iv 0, K.iv 0, .bool false, .bool false], .bool false], .agg #[K.iv 0, K.iv 0, .int .u32 0, .int .u32 0, K.iv 0, .int .u32 0, K.iv 0, K.iv 0, K.iv 0, .bool false, .bool false], .bool false] ?_
    refine K.l (K.OW.gnew 51 [K.iv 0, K.iv 0, .int .u32 0, .int .u32 0, K.iv 0, .int .u32 0, K.iv 0, K.iv 0, K.iv 0, .bool false, .bool false] hS ?_)
    clear hS; intro w r_17 g_18 hg_19 hS
    refine K.l (K.OW.gst 0 [K.iv 0, K.iv 0, .int .u32 0, .int .u32 0, K.iv 0, .int .u32 0, K.iv 0, K.iv 0, K.iv 0, .bool false, .bool false] _ hS hg_19 ?_)
    clear hS; intro w g_20 hg_21 hS
    replace hS : K.Sat w0 [g_20, g_15, gm1, gx, fr] w := hS
    refine K.q [.bool false] (K.z (K.t (K.s ?_)))
    refine K.KW.block ?_
    refine K.s (K.s (K.g ?_))
    refine K.a (K.QR.ldN [K.iv ((L.getD j call0).th), K.iv ((L.getD j call0).ok), .int .u32 ((L.getD j call0).key), .int .u32 ((L.getD j call0).val), K.iv ((L.getD j call0).rk), .int .u32 ((L.getD j call0).rv), K.iv ((L.getD j call0).beg), K.iv ((L.getD j call0).en), K.iv ((L.getD j call0).wh), .bool ((L.getD j call0).cr), .bool ((L.getD j call0).kp)] rfl rfl (by kernel_rfl) (by kernel_rfl) (K.cells (K.cl ((hS.blk 1 rfl hg_16).cell rfl) (K.cl ((hS.blk 1 rfl hg_16).cell rfl) (K.cl ((hS.blk 1 rfl hg_16).cell rfl) (K.cl ((hS.blk 1 rfl hg_16).cell rfl) (K.cl ((hS.blk 1 rfl hg_16).cell rfl) (K.cl ((hS.blk 1 rfl hg_16).cell rfl) (K.cl ((hS.blk 1 rfl hg_16).cell rfl) (K.cl ((hS.blk 1 rfl hg_16).cell rfl) (K.cl ((hS.blk 1 rfl hg_16).cell rfl) (K.cl ((hS.blk 1 rfl hg_16).cell rfl) (K.cl ((hS.blk 1 rfl hg_16).cell rfl) K.cl0))))))))))))) ?_
    refine K.l (K.OW.gcall hS [] [0, 1, 2, 3, 4] [.agg #[K.iv ((L.getD j call0).th), K.iv ((L.getD j call0).ok), .int .u32 ((L.getD j call0).key), .int .u32 ((L.getD j call0).val), K.iv ((L.getD j call0).rk), .int .u32 ((L.getD j call0).rv), K.iv ((L.getD j call0).beg), K.iv ((L.getD j call0).en), K.iv ((L.getD j call0).wh), .bool ((L.getD j call0).cr), .bool ((L.getD j call0).kp)]] (hmay_ok _ (L.getD j call0)) ?_)
    clear hS; rintro _ _ w ⟨rfl, (⟨h_22, rfl⟩ | ⟨h_23, rfl⟩)⟩ hS
    ·
     replace hS : K.Sat w0 [g_20, g_15, gm1, gx, fr] w := hS
     refine K.q [.bool false, .bool false] (K.z (K.t (K.f ?_)))
     refine K.KW.gdrawn [1] hS (by kernel_rfl) ?_
     clear hS; intro w hS
     refine K.b 0 rfl (K.iv ((j : Nat) : Int)) (hS.pick [1]) ?_
     by_cases h_24 : (((j : Nat) : Int) : Int) > (0 : Int)
     ·
      refine K.c 1 rfl (K.QR.nice (v := .bool (decide ((((j : Nat) : Int) : Int) > (0 : Int)))) (by kernel_rfl) (congrArg Value.bool (decide_eq_true h_24))) (hS.pick [1]) ?_
      refine K.b 2 rfl (.bool true) (hS.pick [1]) ?_
      refine K.p 3 rfl (.pointer (some ⟨r_12, 6, none⟩)) (hS.pick [1]) ?_
      refine K.o_ 4 rfl (K.iv ((L.getD j call0).beg)) (fun w hS => ((hS.blk 0 rfl hg_16).cell rfl)) (hS.pick [1]) ?_
      refine K.p 5 rfl (.slice (some ⟨b_10, of_11, none⟩) L.length cap) (hS.pick [1]) ?_
      refine K.b 6 rfl (K.iv ((j : Nat) : Int)) (hS.pick [1]) ?_
      refine K.c 7 rfl (K.QR.turn (v := K.iv ((j - 1 : Nat) : Int)) (K.QR.n64 ((((j : Nat) : Int) : Int) - (1 : Int)) ((j - 1 : Nat) : Int) (by kernel_rfl) (by omega)) (congrArg (Value.int .i64) (show (((j - 1 : Nat) : Int) : Int) = (((j - 1 : Nat) : Int) : Int) from by omega))) (hS.pick [1]) ?_
      refine K.c 8 rfl (K.QR.ix (of_11 + (j - 1) * 11) 11 rfl rfl rfl Try.underlying22 (by kernel_rfl) (by omega) (by first | (simp; done) | omega | (simp; omega))) (hS.pick [1]) ?_
      refine K.b 9 rfl (.pointer (some ⟨b_10, of_11 + (j - 1) * 11 + 6, none⟩)) (hS.pick [1]) ?_
      refine K.c 10 rfl (K.QR.ld1 (v := K.iv ((L.getD (j - 1) call0).beg)) rfl rfl (by kernel_rfl) ((hx _ (hS.pick [3])).ld (j - 1) (by omega) 6 _ rfl)) (hS.pick [1]) ?_
      by_cases h_25 : ((L.getD j call0).beg : Int) < ((L.getD (j - 1) call0).beg : Int)
      ·
       refine K.c 11 rfl (K.QR.nice (v := .bool (decide (((L.getD j call0).beg : Int) < ((L.getD (j - 1) call0).beg : Int)))) (by kernel_rfl) (congrArg Value.bool (decide_eq_true h_25))) (hS.pick [1]) ?_
       refine K.b 12 rfl (.bool true) (hS.pick [1]) ?_
       refine K.b 13 rfl (.bool true) (hS.pick [1]) ?_
       refine K.DW.done (by kernel_rfl) ?_
       refine K.t (K.h (K.s (K.g (K.q [.bool false] (K.z (K.t (K.r ?_)))))))
       refine K.blk_ret ?_
       refine K.u ?_
       refine K.blk_ret ?_
       refine K.u (K.u ?_)
       refine K.blk_ret ?_
       refine K.u ?_
       refine ⟨.inr rfl, rfl, (.bool false), K.res1 rfl rfl, [gx], ?_, hS.pick [3, 4]⟩
       exact ⟨rfl, .inr ⟨fun hh => by have h9 := hh j (by omega); first | (have := h9.2.1; omega) | exact h9.2.2 c hl ⟨by assumption, by omega⟩, rfl⟩⟩
      ·
       refine K.c 11 rfl (K.QR.nice (v := .bool (decide (((L.getD j call0).beg : Int) < ((L.getD (j - 1) call0).beg : Int)))) (by kernel_rfl) (congrArg Value.bool (decide_eq_false h_25))) (hS.pick [1]) ?_
       refine K.b 12 rfl (.bool false) (hS.pick [1]) ?_
       refine K.b 13 rfl (.bool false) (hS.pick [1]) ?_
       refine K.DW.done (by kernel_rfl) ?_
       refine K.t (K.f (K.s (K.g (K.q [.bool false, .bool false] (K.n_ (K.n_ (K.n_ (K.q [.bool false, .bool false] (K.n_ (K.n_ (K.n_ (K.n_ (K.n_ (K.q [.bool false, .bool false] ?_))))))))))))))
       refine K.z (K.t (K.f (K.k ?_)))
       refine K.blk_normal ?_
       refine K.t (K.g (K.q [.map (some r_1), K.pa r_12] ?_))
       refine K.d (K.iv ((L.getD j call0).th)) ((hS.blk 1 rfl hg_16).cell rfl) ?_
       refine K.a (K.QR.ldN [K.iv ((L.getD j call0).th), K.iv ((L.getD j call0).ok), .int .u32 ((L.getD j call0).key), .int .u32 ((L.getD j call0).val), K.iv ((L.getD j call0).rk), .int .u32 ((L.getD j call0).rv), K.iv ((L.getD j call0).beg), K.iv ((L.getD j call0).en), K.iv ((L.getD j call0).wh), .bool ((L.getD j call0).cr), .bool ((L.getD j call0).kp)] rfl rfl (by kernel_rfl) (by kernel_rfl) (K.cells (K.cl ((hS.blk 1 rfl hg_16).cell rfl) (K.cl ((hS.blk 1 rfl hg_16).cell rfl) (K.cl ((hS.blk 1 rfl hg_16).cell rfl) (K.cl ((hS.blk 1 rfl hg_16).cell rfl) (K.cl ((hS.blk 1 rfl hg_16).cell rfl) (K.cl ((hS.blk 1 rfl hg_16).cell rfl) (K.cl ((hS.blk 1 rfl hg_16).cell rfl) (K.cl ((hS.blk 1 rfl hg_16).cell rfl) (K.cl ((hS.blk 1 rfl hg_16).cell rfl) (K.cl ((hS.blk 1 rfl hg_16).cell rfl) (K.cl ((hS.blk 1 rfl hg_16).cell rfl) K.cl0))))))))))))) ?_
       refine K.l (K.OW.gmset (c := callA) (y := L.getD j call0) (th := (L.getD j call0).th) (M := lastH L j) 2 hS x_8 rfl ?_ Try.underlying94 Try.underlying3)
       clear hS; intro w g_26 hg_27 hS
       replace hS : K.Sat w0 [g_20, g_15, g_26, gx, fr] w := hS
       refine K.z ?_
       refine K.blk_normal ?_
       refine K.t (K.g ?_)
       refine K.a (K.QR.n64 ((((j : Nat) : Int) : Int) + (1 : Int)) ((j + 1 : Nat) : Int) (by kernel_rfl) (by omega)) ?_
       refine K.q [K.iv ((j + 1 : Nat) : Int)] (K.z (K.t ?_))
       refine ⟨_, ?_, j + 1, g_26, rfl, ⟨by rfl, by rfl, by rfl, by rfl, by rfl, by rfl, trivial⟩, (by omega), (K.all_snoc hrt ⟨h_22, by omega, fun c9 h9 => by rw [hl] at h9; cases h9⟩), hg_27, hS.pick [2, 3, 4]⟩
       omega
     ·
      refine K.c 1 rfl (K.QR.nice (v := .bool (decide ((((j : Nat) : Int) : Int) > (0 : Int)))) (by kernel_rfl) (congrArg Value.bool (decide_eq_false h_24))) (hS.pick [1]) ?_
      refine K.b 2 rfl (.bool false) (hS.pick [1]) ?_
      refine K.w_ 3 rfl (hS.pick [1]) ?_
      refine K.w_ 4 rfl (hS.pick [1]) ?_
      refine K.w_ 5 rfl (hS.pick [1]) ?_
      refine K.w_ 6 rfl (hS.pick [1]) ?_
      refine K.w_ 7 rfl (hS.pick [1]) ?_
      refine K.w_ 8 rfl (hS.pick [1]) ?_
      refine K.w_ 9 rfl (hS.pick [1]) ?_
      refine K.w_ 10 rfl (hS.pick [1]) ?_
      refine K.w_ 11 rfl (hS.pick [1]) ?_
      refine K.b 12 rfl (.bool false) (hS.pick [1]) ?_
      refine K.b 13 rfl (.bool false) (hS.pick [1]) ?_
      refine K.DW.done (by kernel_rfl) ?_
      refine K.t (K.f (K.s (K.g (K.q [.bool false, .bool false] (K.n_ (K.n_ (K.n_ (K.q [.bool false, .bool false] (K.n_ (K.n_ (K.n_ (K.n_ (K.n_ (K.q [.bool false, .bool false] ?_))))))))))))))
      refine K.z (K.t (K.f (K.k ?_)))
      refine K.blk_normal ?_
      refine K.t (K.g (K.q [.map (some r_1), K.pa r_12] ?_))
      refine K.d (K.iv ((L.getD j call0).th)) ((hS.blk 1 rfl hg_16).cell rfl) ?_
      refine K.a (K.QR.ldN [K.iv ((L.getD j call0).th), K.iv ((L.getD j call0).ok), .int .u32 ((L.getD j call0).key), .int .u32 ((L.getD j call0).val), K.iv ((L.getD j call0).rk), .int .u32 ((L.getD j call0).rv), K.iv ((L.getD j call0).beg), K.iv ((L.getD j call0).en), K.iv ((L.getD j call0).wh), .bool ((L.getD j call0).cr), .bool ((L.getD j call0).kp)] rfl rfl (by kernel_rfl) (by kernel_rfl) (K.cells (K.cl ((hS.blk 1 rfl hg_16).cell rfl) (K.cl ((hS.blk 1 rfl hg_16).cell rfl) (K.cl ((hS.blk 1 rfl hg_16).cell rfl) (K.cl ((hS.blk 1 rfl hg_16).cell rfl) (K.cl ((hS.blk 1 rfl hg_16).cell rfl) (K.cl ((hS.blk 1 rfl hg_16).cell rfl) (K.cl ((hS.blk 1 rfl hg_16).cell rfl) (K.cl ((hS.blk 1 rfl hg_16).cell rfl) (K.cl ((hS.blk 1 rfl hg_16).cell rfl) (K.cl ((hS.blk 1 rfl hg_16).cell rfl) (K.cl ((hS.blk 1 rfl hg_16).cell rfl) K.cl0))))))))))))) ?_
      refine K.l (K.OW.gmset (c := callA) (y := L.getD j call0) (th := (L.getD j call0).th) (M := lastH L j) 2 hS x_8 rfl ?_ Try.underlying94 Try.underlying3)
      clear hS; intro w g_28 hg_29 hS
      replace hS : K.Sat w0 [g_20, g_15, g_28, gx, fr] w := hS
      refine K.z ?_
      refine K.blk_normal ?_
      refine K.t (K.g ?_)
      refine K.a (K.QR.n64 ((((j : Nat) : Int) : Int) + (1 : Int)) ((j + 1 : Nat) : Int) (by kernel_rfl) (by omega)) ?_
      refine K.q [K.iv ((j + 1 : Nat) : Int)] (K.z (K.t ?_))
      refine ⟨_, ?_, j + 1, g_28, rfl, ⟨by rfl, by rfl, by rfl, by rfl, by rfl, by rfl, trivial⟩, (by omega), (K.all_snoc hrt ⟨h_22, by omega, fun c9 h9 => by rw [hl] at h9; cases h9⟩), hg_29, hS.pick [2, 3, 4]⟩
      omega
    ·
     replace hS : K.Sat w0 [g_20, g_15, gm1, gx, fr] w := hS
     refine K.q [.bool true, .bool true] (K.z (K.t (K.h (K.k (K.t (K.h (K.s (K.g (K.q [.bool false] (K.z (K.t (K.r ?_))))))))))))
     refine K.blk_ret ?_
     refine K.u ?_
     refine K.blk_ret ?_
     refine K.u (K.u ?_)
     refine K.blk_ret ?_
     refine K.u ?_
     refine ⟨.inr rfl, rfl, (.bool false), K.res1 rfl rfl, [gx], ?_, hS.pick [3, 4]⟩
     exact ⟨rfl, .inr ⟨fun hh => by have h9 := hh j (by omega); exact absurd h9.1 h_23, rfl⟩⟩
   ·
    refine K.g (K.q [.map (some r_1), K.pa r_12] ?_)
    refine K.d (K.iv ((L.getD j call0).th)) ((hS.blk 0 rfl hg_16).cell rfl) ?_
    refine K.a (K.QR.mlook (c := callA) (M := lastH L j) (.tuple #[.agg #[K.iv c.th, K.iv c.ok, .int .u32 c.key, .int .u32 c.val, K.iv c.rk, .int .u32 c.rv, K.iv c.beg, K.iv c.en, K.iv c.wh, .bool c.cr, .bool c.kp], .bool true]) rfl rfl rfl Try.underlying94 Try.underlying3 (show (zeroValue 51).run Try.prog w = .ok (.agg #[K.iv 0, K.iv 0, .int .u32 0, .int .u32 0, K.iv 0, .int .u32 0, K.iv 0, K.iv 0, K.iv 0, .bool false, .bool false]) w by kernel_rfl) (hS.ob 1 rfl hge rfl).1 hMH (by rw [hl] <;> rfl)) ?_
    refine K.q [.tuple #[.agg #[K.iv c.th, K.iv c.ok, .int .u32 c.key, .int .u32 c.val, K.iv c.rk, .int .u32 c.rv, K.iv c.beg, K.iv c.en, K.iv c.wh, .bool c.cr, .bool c.kp], .bool true], .agg #[K.iv c.th, K.iv c.ok, .int .u32 c.key, .int .u32 c.val, K.iv c.rk, .int .u32 c.rv, K.iv c.beg, K.iv c.en, K.iv c.wh, .bool c.cr, .bool c.kp], .bool true] ?_
    refine K.l (K.OW.gnew 51 [K.iv 0, K.iv 0, .int .u32 0, .int .u32 0, K.iv 0, .int .u32 0, K.iv 0, K.iv 0, K.iv 0, .bool false, .bool false] hS ?_)
    clear hS; intro w r_30 g_31 hg_32 hS
    refine K.l (K.OW.gst 0 [K.iv c.th, K.iv c.ok, .int .u32 c.key, .int .u32 c.val, K.iv c.rk, .int .u32 c.rv, K.iv c.beg, K.iv c.en, K.iv c.wh, .bool c.cr, .bool c.kp] _ hS hg_32 ?_)
    clear hS; intro w g_33 hg_34 hS
    replace hS : K.Sat w0 [g_33, g_15, gm1, gx, fr] w := hS
    refine K.q [.bool true] (K.z (K.t (K.s ?_)))
    refine K.KW.block ?_
    refine K.s (K.s (K.g ?_))
    refine K.a (K.QR.ldN [K.iv ((L.getD j call0).th), K.iv ((L.getD j call0).ok), .int .u32 ((L.getD j call0).key), .int .u32 ((L.getD j call0).val), K.iv ((L.getD j call0).rk), .int .u32 ((L.getD j call0).rv), K.iv ((L.getD j call0).beg), K.iv ((L.getD j call0).en), K.iv ((L.getD j call0).wh), .bool ((L.getD j call0).cr), .bool ((L.getD j call0).kp)] rfl rfl (by kernel_rfl) (by kernel_rfl) (K.cells (K.cl ((hS.blk 1 rfl hg_16).cell rfl) (K.cl ((hS.blk 1 rfl hg_16).cell rfl) (K.cl ((hS.blk 1 rfl hg_16).cell rfl) (K.cl ((hS.blk 1 rfl hg_16).cell rfl) (K.cl ((hS.blk 1 rfl hg_16).cell rfl) (K.cl ((hS.blk 1 rfl hg_16).cell rfl) (K.cl ((hS.blk 1 rfl hg_16).cell rfl) (K.cl ((hS.blk 1 rfl hg_16).cell rfl) (K.cl ((hS.blk 1 rfl hg_16).cell rfl) (K.cl ((hS.blk 1 rfl hg_16).cell rfl) (K.cl ((hS.blk 1 rfl hg_16).cell rfl) K.cl0))))))))))))) ?_
    refine K.l (K.OW.gcall hS [] [0, 1, 2, 3, 4] [.agg #[K.iv ((L.getD j call0).th), K.iv ((L.getD j call0).ok), .int .u32 ((L.getD j call0).key), .int .u32 ((L.getD j call0).val), K.iv ((L.getD j call0).rk), .int .u32 ((L.getD j call0).rv), K.iv ((L.getD j call0).beg), K.iv ((L.getD j call0).en), K.iv ((L.getD j call0).wh), .bool ((L.getD j call0).cr), .bool ((L.getD j call0).kp)]] (hmay_ok _ (L.getD j call0)) ?_)
    clear hS; rintro _ _ w ⟨rfl, (⟨h_35, rfl⟩ | ⟨h_36, rfl⟩)⟩ hS
    ·
     replace hS : K.Sat w0 [g_33, g_15, gm1, gx, fr] w := hS
     refine K.q [.bool false, .bool false] (K.z (K.t (K.f ?_)))
     refine K.KW.gdrawn [1] hS (by kernel_rfl) ?_
     clear hS; intro w hS
     refine K.b 0 rfl (K.iv ((j : Nat) : Int)) (hS.pick [1]) ?_
     by_cases h_37 : (((j : Nat) : Int) : Int) > (0 : Int)
     ·
      refine K.c 1 rfl (K.QR.nice (v := .bool (decide ((((j : Nat) : Int) : Int) > (0 : Int)))) (by kernel_rfl) (congrArg Value.bool (decide_eq_true h_37))) (hS.pick [1]) ?_
      refine K.b 2 rfl (.bool true) (hS.pick [1]) ?_
      refine K.p 3 rfl (.pointer (some ⟨r_12, 6, none⟩)) (hS.pick [1]) ?_
      refine K.o_ 4 rfl (K.iv ((L.getD j call0).beg)) (fun w hS => ((hS.blk 0 rfl hg_16).cell rfl)) (hS.pick [1]) ?_
      refine K.p 5 rfl (.slice (some ⟨b_10, of_11, none⟩) L.length cap) (hS.pick [1]) ?_
      refine K.b 6 rfl (K.iv ((j : Nat) : Int)) (hS.pick [1]) ?_
      refine K.c 7 rfl (K.QR.turn (v := K.iv ((j - 1 : Nat) : Int)) (K.QR.n64 ((((j : Nat) : Int) : Int) - (1 : Int)) ((j - 1 : Nat) : Int) (by kernel_rfl) (by omega)) (congrArg (Value.int .i64) (show (((j - 1 : Nat) : Int) : Int) = (((j - 1 : Nat) : Int) : Int) from by omega))) (hS.pick [1]) ?_
      refine K.c 8 rfl (K.QR.ix (of_11 + (j - 1) * 11) 11 rfl rfl rfl Try.underlying22 (by kernel_rfl) (by omega) (by first | (simp; done) | omega | (simp; omega))) (hS.pick [1]) ?_
      refine K.b 9 rfl (.pointer (some ⟨b_10, of_11 + (j - 1) * 11 + 6, none⟩)) (hS.pick [1]) ?_
      refine K.c 10 rfl (K.QR.ld1 (v := K.iv ((L.getD (j - 1) call0).beg)) rfl rfl (by kernel_rfl) ((hx _ (hS.pick [3])).ld (j - 1) (by omega) 6 _ rfl)) (hS.pick [1]) ?_
      by_cases h_38 : ((L.getD j call0).beg : Int) < ((L.getD (j - 1) call0).beg : Int)
      ·
       refine K.c 11 rfl (K.QR.nice (v := .bool (decide (((L.getD j call0).beg : Int) < ((L.getD (j - 1) call0).beg : Int)))) (by kernel_rfl) (congrArg Value.bool (decide_eq_true h_38))) (hS.pick [1]) ?_
       refine K.b 12 rfl (.bool true) (hS.pick [1]) ?_
       refine K.b 13 rfl (.bool true) (hS.pick [1]) ?_
       refine K.DW.done (by kernel_rfl) ?_
       refine K.t (K.h (K.s (K.g (K.q [.bool false] (K.z (K.t (K.r ?_)))))))
       refine K.blk_ret ?_
       refine K.u ?_
       refine K.blk_ret ?_
       refine K.u (K.u ?_)
       refine K.blk_ret ?_
       refine K.u ?_
       refine ⟨.inr rfl, rfl, (.bool false), K.res1 rfl rfl, [gx], ?_, hS.pick [3, 4]⟩
       exact ⟨rfl, .inr ⟨fun hh => by have h9 := hh j (by omega); first | (have := h9.2.1; omega) | exact h9.2.2 c hl ⟨by assumption, by omega⟩, rfl⟩⟩
      ·
       refine K.c 11 rfl (K.QR.nice (v := .bool (decide (((L.getD j call0).beg : Int) < ((L.getD (j - 1) call0).beg : Int)))) (by kernel_rfl) (congrArg Value.bool (decide_eq_false h_38))) (hS.pick [1]) ?_
       refine K.b 12 rfl (.bool false) (hS.pick [1]) ?_
       refine K.b 13 rfl (.bool false) (hS.pick [1]) ?_
       refine K.DW.done (by kernel_rfl) ?_
       refine K.t (K.f (K.s (K.g (K.q [.bool true, .bool true, .pointer (some ⟨r_30, 9, none⟩)] ?_))))
       refine K.d (.bool c.cr) ((hS.blk 0 rfl hg_34).cell rfl) ?_
       cases hb_39 : c.cr
       ·
        refine K.q [.bool true, .bool true, .bool true, .pointer (some ⟨r_12, 6, none⟩)] ?_
        refine K.d (K.iv ((L.getD j call0).beg)) ((hS.blk 1 rfl hg_16).cell rfl) ?_
        refine K.q [.pointer (some ⟨r_30, 7, none⟩)] ?_
        refine K.d (K.iv c.en) ((hS.blk 0 rfl hg_34).cell rfl) ?_
        by_cases h_40 : ((L.getD j call0).beg : Int) < (c.en : Int)
        ·
         refine K.y (((L.getD j call0).beg : Int) < (c.en : Int)) h_40 ?_
         refine K.q [.bool true, .bool true] (K.z (K.t (K.h (K.s (K.g (K.q [.bool false] (K.z (K.t (K.r ?_)))))))))
         refine K.blk_ret ?_
         refine K.u ?_
         refine K.blk_ret ?_
         refine K.u (K.u ?_)
         refine K.blk_ret ?_
         refine K.u ?_
         refine ⟨.inr rfl, rfl, (.bool false), K.res1 rfl rfl, [gx], ?_, hS.pick [3, 4]⟩
         exact ⟨rfl, .inr ⟨fun hh => by have h9 := hh j (by omega); first | (have := h9.2.1; omega) | exact h9.2.2 c hl ⟨by assumption, by omega⟩, rfl⟩⟩
        ·
         refine K.x (((L.getD j call0).beg : Int) < (c.en : Int)) h_40 ?_
         refine K.q [.bool false, .bool false] (K.z (K.t (K.f (K.k ?_))))
         refine K.blk_normal ?_
         refine K.t (K.g (K.q [.map (some r_1), K.pa r_12] ?_))
         refine K.d (K.iv ((L.getD j call0).th)) ((hS.blk 1 rfl hg_16).cell rfl) ?_
         refine K.a (K.QR.ldN [K.iv ((L.getD j call0).th), K.iv ((L.getD j call0).ok), .int .u32 ((L.getD j call0).key), .int .u32 ((L.getD j call0).val), K.iv ((L.getD j call0).rk), .int .u32 ((L.getD j call0).rv), K.iv ((L.getD j call0).beg), K.iv ((L.getD j call0).en), K.iv ((L.getD j call0).wh), .bool ((L.getD j call0).cr), .bool ((L.getD j call0).kp)] rfl rfl (by kernel_rfl) (by kernel_rfl) (K.cells (K.cl ((hS.blk 1 rfl hg_16).cell rfl) (K.cl ((hS.blk 1 rfl hg_16).cell rfl) (K.cl ((hS.blk 1 rfl hg_16).cell rfl) (K.cl ((hS.blk 1 rfl hg_16).cell rfl) (K.cl ((hS.blk 1 rfl hg_16).cell rfl) (K.cl ((hS.blk 1 rfl hg_16).cell rfl) (K.cl ((hS.blk 1 rfl hg_16).cell rfl) (K.cl ((hS.blk 1 rfl hg_16).cell rfl) (K.cl ((hS.blk 1 rfl hg_16).cell rfl) (K.cl ((hS.blk 1 rfl hg_16).cell rfl) (K.cl ((hS.blk 1 rfl hg_16).cell rfl) K.cl0))))))))))))) ?_
         refine K.l (K.OW.gmset (c := callA) (y := L.getD j call0) (th := (L.getD j call0).th) (M := lastH L j) 2 hS x_8 rfl ?_ Try.underlying94 Try.underlying3)
         clear hS; intro w g_41 hg_42 hS
         replace hS : K.Sat w0 [g_33, g_15, g_41, gx, fr] w := hS
         refine K.z ?_
         refine K.blk_normal ?_
         refine K.t (K.g ?_)
         refine K.a (K.QR.n64 ((((j : Nat) : Int) : Int) + (1 : Int)) ((j + 1 : Nat) : Int) (by kernel_rfl) (by omega)) ?_
         refine K.q [K.iv ((j + 1 : Nat) : Int)] (K.z (K.t ?_))
         refine ⟨_, ?_, j + 1, g_41, rfl, ⟨by rfl, by rfl, by rfl, by rfl, by rfl, by rfl, trivial⟩, (by omega), (K.all_snoc hrt ⟨h_35, by omega, fun c9 h9 => by rw [hl] at h9; cases h9; rintro ⟨h1, h2⟩; first | omega | simp_all⟩), hg_42, hS.pick [2, 3, 4]⟩
         omega
       ·
        refine K.q [.bool false, .bool false, .bool false] (K.n_ (K.n_ (K.n_ (K.n_ (K.n_ (K.q [.bool false, .bool false] (K.z (K.t (K.f (K.k ?_))))))))))
        refine K.blk_normal ?_
        refine K.t (K.g (K.q [.map (some r_1), K.pa r_12] ?_))
        refine K.d (K.iv ((L.getD j call0).th)) ((hS.blk 1 rfl hg_16).cell rfl) ?_
        refine K.a (K.QR.ldN [K.iv ((L.getD j call0).th), K.iv ((L.getD j call0).ok), .int .u32 ((L.getD j call0).key), .int .u32 ((L.getD j call0).val), K.iv ((L.getD j call0).rk), .int .u32 ((L.getD j call0).rv), K.iv ((L.getD j call0).beg), K.iv ((L.getD j call0).en), K.iv ((L.getD j call0).wh), .bool ((L.getD j call0).cr), .bool ((L.getD j call0).kp)] rfl rfl (by kernel_rfl) (by kernel_rfl) (K.cells (K.cl ((hS.blk 1 rfl hg_16).cell rfl) (K.cl ((hS.blk 1 rfl hg_16).cell rfl) (K.cl ((hS.blk 1 rfl hg_16).cell rfl) (K.cl ((hS.blk 1 rfl hg_16).cell rfl) (K.cl ((hS.blk 1 rfl hg_16).cell rfl) (K.cl ((hS.blk 1 rfl hg_16).cell rfl) (K.cl ((hS.blk 1 rfl hg_16).cell rfl) (K.cl ((hS.blk 1 rfl hg_16).cell rfl) (K.cl ((hS.blk 1 rfl hg_16).cell rfl) (K.cl ((hS.blk 1 rfl hg_16).cell rfl) (K.cl ((hS.blk 1 rfl hg_16).cell rfl) K.cl0))))))))))))) ?_
        refine K.l (K.OW.gmset (c := callA) (y := L.getD j call0) (th := (L.getD j call0).th) (M := lastH L j) 2 hS x_8 rfl ?_ Try.underlying94 Try.underlying3)
        clear hS; intro w g_43 hg_44 hS
        replace hS : K.Sat w0 [g_33, g_15, g_43, gx, fr] w := hS
        refine K.z ?_
        refine K.blk_normal ?_
        refine K.t (K.g ?_)
        refine K.a (K.QR.n64 ((((j : Nat) : Int) : Int) + (1 : Int)) ((j + 1 : Nat) : Int) (by kernel_rfl) (by omega)) ?_
        refine K.q [K.iv ((j + 1 : Nat) : Int)] (K.z (K.t ?_))
        refine ⟨_, ?_, j + 1, g_43, rfl, ⟨by rfl, by rfl, by rfl, by rfl, by rfl, by rfl, trivial⟩, (by omega), (K.all_snoc hrt ⟨h_35, by omega, fun c9 h9 => by rw [hl] at h9; cases h9; rintro ⟨h1, h2⟩; first | omega | simp_all⟩), hg_44, hS.pick [2, 3, 4]⟩
        omega
     ·
      refine K.c 1 rfl (K.QR.nice (v := .bool (decide ((((j : Nat) : Int) : Int) > (0 : Int)))) (by kernel_rfl) (congrArg Value.bool (decide_eq_false h_37))) (hS.pick [1]) ?_
      refine K.b 2 rfl (.bool false) (hS.pick [1]) ?_
      refine K.w_ 3 rfl (hS.pick [1]) ?_
      refine K.w_ 4 rfl (hS.pick [1]) ?_
      refine K.w_ 5 rfl (hS.pick [1]) ?_
      refine K.w_ 6 rfl (hS.pick [1]) ?_
      refine K.w_ 7 rfl (hS.pick [1]) ?_
      refine K.w_ 8 rfl (hS.pick [1]) ?_
      refine K.w_ 9 rfl (hS.pick [1]) ?_
      refine K.w_ 10 rfl (hS.pick [1]) ?_
      refine K.w_ 11 rfl (hS.pick [1]) ?_
      refine K.b 12 rfl (.bool false) (hS.pick [1]) ?_
      refine K.b 13 rfl (.bool false) (hS.pick [1]) ?_
      refine K.DW.done (by kernel_rfl) ?_
      refine K.t (K.f (K.s (K.g (K.q [.bool true, .bool true, .pointer (some ⟨r_30, 9, none⟩)] ?_))))
      refine K.d (.bool c.cr) ((hS.blk 0 rfl hg_34).cell rfl) ?_
      cases hb_45 : c.cr
      ·
       refine K.q [.bool true, .bool true, .bool true, .pointer (some ⟨r_12, 6, none⟩)] ?_
       refine K.d (K.iv ((L.getD j call0).beg)) ((hS.blk 1 rfl hg_16).cell rfl) ?_
       refine K.q [.pointer (some ⟨r_30, 7, none⟩)] ?_
       refine K.d (K.iv c.en) ((hS.blk 0 rfl hg_34).cell rfl) ?_
       by_cases h_46 : ((L.getD j call0).beg : Int) < (c.en : Int)
       ·
        refine K.y (((L.getD j call0).beg : Int) < (c.en : Int)) h_46 ?_
        refine K.q [.bool true, .bool true] (K.z (K.t (K.h (K.s (K.g (K.q [.bool false] (K.z (K.t (K.r ?_)))))))))
        refine K.blk_ret ?_
        refine K.u ?_
        refine K.blk_ret ?_
        refine K.u (K.u ?_)
        refine K.blk_ret ?_
        refine K.u ?_
        refine ⟨.inr rfl, rfl, (.bool false), K.res1 rfl rfl, [gx], ?_, hS.pick [3, 4]⟩
        exact ⟨rfl, .inr ⟨fun hh => by have h9 := hh j (by omega); first | (have := h9.2.1; omega) | exact h9.2.2 c hl ⟨by assumption, by omega⟩, rfl⟩⟩
       ·
        refine K.x (((L.getD j call0).beg : Int) < (c.en : Int)) h_46 ?_
        refine K.q [.bool false, .bool false] (K.z (K.t (K.f (K.k ?_))))
        refine K.blk_normal ?_
        refine K.t (K.g (K.q [.map (some r_1), K.pa r_12] ?_))
        refine K.d (K.iv ((L.getD j call0).th)) ((hS.blk 1 rfl hg_16).cell rfl) ?_
        refine K.a (K.QR.ldN [K.iv ((L.getD j call0).th), K.iv ((L.getD j call0).ok), .int .u32 ((L.getD j call0).key), .int .u32 ((L.getD j call0).val), K.iv ((L.getD j call0).rk), .int .u32 ((L.getD j call0).rv), K.iv ((L.getD j call0).beg), K.iv ((L.getD j call0).en), K.iv ((L.getD j call0).wh), .bool ((L.getD j call0).cr), .bool ((L.getD j call0).kp)] rfl rfl (by kernel_rfl) (by kernel_rfl) (K.cells (K.cl ((hS.blk 1 rfl hg_16).cell rfl) (K.cl ((hS.blk 1 rfl hg_16).cell rfl) (K.cl ((hS.blk 1 rfl hg_16).cell rfl) (K.cl ((hS.blk 1 rfl hg_16).cell rfl) (K.cl ((hS.blk 1 rfl hg_16).cell rfl) (K.cl ((hS.blk 1 rfl hg_16).cell rfl) (K.cl ((hS.blk 1 rfl hg_16).cell rfl) (K.cl ((hS.blk 1 rfl hg_16).cell rfl) (K.cl ((hS.blk 1 rfl hg_16).cell rfl) (K.cl ((hS.blk 1 rfl hg_16).cell rfl) (K.cl ((hS.blk 1 rfl hg_16).cell rfl) K.cl0))))))))))))) ?_
        refine K.l (K.OW.gmset (c := callA) (y := L.getD j call0) (th := (L.getD j call0).th) (M := lastH L j) 2 hS x_8 rfl ?_ Try.underlying94 Try.underlying3)
        clear hS; intro w g_47 hg_48 hS
        replace hS : K.Sat w0 [g_33, g_15, g_47, gx, fr] w := hS
        refine K.z ?_
        refine K.blk_normal ?_
        refine K.t (K.g ?_)
        refine K.a (K.QR.n64 ((((j : Nat) : Int) : Int) + (1 : Int)) ((j + 1 : Nat) : Int) (by kernel_rfl) (by omega)) ?_
        refine K.q [K.iv ((j + 1 : Nat) : Int)] (K.z (K.t ?_))
        refine ⟨_, ?_, j + 1, g_47, rfl, ⟨by rfl, by rfl, by rfl, by rfl, by rfl, by rfl, trivial⟩, (by omega), (K.all_snoc hrt ⟨h_35, by omega, fun c9 h9 => by rw [hl] at h9; cases h9; rintro ⟨h1, h2⟩; first | omega | simp_all⟩), hg_48, hS.pick [2, 3, 4]⟩
        omega
      ·
       refine K.q [.bool false, .bool false, .bool false] (K.n_ (K.n_ (K.n_ (K.n_ (K.n_ (K.q [.bool false, .bool false] (K.z (K.t (K.f (K.k ?_))))))))))
       refine K.blk_normal ?_
       refine K.t (K.g (K.q [.map (some r_1), K.pa r_12] ?_))
       refine K.d (K.iv ((L.getD j call0).th)) ((hS.blk 1 rfl hg_16).cell rfl) ?_
       refine K.a (K.QR.ldN [K.iv ((L.getD j call0).th), K.iv ((L.getD j call0).ok), .int .u32 ((L.getD j call0).key), .int .u32 ((L.getD j call0).val), K.iv ((L.getD j call0).rk), .int .u32 ((L.getD j call0).rv), K.iv ((L.getD j call0).beg), K.iv ((L.getD j call0).en), K.iv ((L.getD j call0).wh), .bool ((L.getD j call0).cr), .bool ((L.getD j call0).kp)] rfl rfl (by kernel_rfl) (by kernel_rfl) (K.cells (K.cl ((hS.blk 1 rfl hg_16).cell rfl) (K.cl ((hS.blk 1 rfl hg_16).cell rfl) (K.cl ((hS.blk 1 rfl hg_16).cell rfl) (K.cl ((hS.blk 1 rfl hg_16).cell rfl) (K.cl ((hS.blk 1 rfl hg_16).cell rfl) (K.cl ((hS.blk 1 rfl hg_16).cell rfl) (K.cl ((hS.blk 1 rfl hg_16).cell rfl) (K.cl ((hS.blk 1 rfl hg_16).cell rfl) (K.cl ((hS.blk 1 rfl hg_16).cell rfl) (K.cl ((hS.blk 1 rfl hg_16).cell rfl) (K.cl ((hS.blk 1 rfl hg_16).cell rfl) K.cl0))))))))))))) ?_
       refine K.l (K.OW.gmset (c := callA) (y := L.getD j call0) (th := (L.getD j call0).th) (M := lastH L j) 2 hS x_8 rfl ?_ Try.underlying94 Try.underlying3)
       clear hS; intro w g_49 hg_50 hS
       replace hS : K.Sat w0 [g_33, g_15, g_49, gx, fr] w := hS
       refine K.z ?_
       refine K.blk_normal ?_
       refine K.t (K.g ?_)
       refine K.a (K.QR.n64 ((((j : Nat) : Int) : Int) + (1 : Int)) ((j + 1 : Nat) : Int) (by kernel_rfl) (by omega)) ?_
       refine K.q [K.iv ((j + 1 : Nat) : Int)] (K.z (K.t ?_))
       refine ⟨_, ?_, j + 1, g_49, rfl, ⟨by rfl, by rfl, by rfl, by rfl, by rfl, by rfl, trivial⟩, (by omega), (K.all_snoc hrt ⟨h_35, by omega, fun c9 h9 => by rw [hl] at h9; cases h9; rintro ⟨h1, h2⟩; first | omega | simp_all⟩), hg_50, hS.pick [2, 3, 4]⟩
       omega
    ·
     replace hS : K.Sat w0 [g_33, g_15, gm1, gx, fr] w := hS
     refine K.q [.bool true, .bool true] (K.z (K.t (K.h (K.k (K.t (K.h (K.s (K.g (K.q [.bool false] (K.z (K.t (K.r ?_))))))))))))
     refine K.blk_ret ?_
     refine K.u ?_
     refine K.blk_ret ?_
     refine K.u (K.u ?_)
     refine K.blk_ret ?_
     refine K.u ?_
     refine ⟨.inr rfl, rfl, (.bool false), K.res1 rfl rfl, [gx], ?_, hS.pick [3, 4]⟩
     exact ⟨rfl, .inr ⟨fun hh => by have h9 := hh j (by omega); exact absurd h9.1 h_36, rfl⟩⟩
  ·
   refine K.x ((((j : Nat) : Int) : Int) < (((L.length : Nat) : Int) : Int)) h_9 ?_
   refine K.z (K.t (K.s (K.f ?_)))
   refine K.KW.exit ?_
   refine K.thn_exit ?_
   refine K.thn_exit ?_
   refine K.blk_hit ?_
   refine K.t (K.s (K.g (K.q [.bool true] (K.z (K.t (K.r ?_))))))
   refine ⟨.inr rfl, rfl, (.bool true), K.res1 rfl rfl, [gx], ?_, hS.pick [1, 2]⟩
   exact ⟨rfl, .inl ⟨fun q hq => hrt q (by omega), rfl⟩⟩
end Go.Proofs.Ytnehocjmgnhhhaa
