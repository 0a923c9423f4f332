import Derived.Test.YtnehocjmgnhhhaaFmr
import Derived.Test.YtnehocjmgnhhhaaKn
/- Apply: the code's and the document's. -/
namespace Go.Proofs.Ytnehocjmgnhhhaa
open Go.RowKit
set_option linter.unusedVariables false
attribute [local irreducible] K.KW K.RW K.DW K.OW K.QR K.KC
abbrev RdU (w0 : World) (g : K.Cs) (a : Option Addr) (L : List Int) : Prop := ∀ w, K.Sat w0 [g] w → K.RowE w a L.length 1 (fun i => cU32 (L.getD i 0))
abbrev RdP (w0 : World) (g : K.Cs) (a : Option Addr) (L : List PairM) : Prop := ∀ w, K.Sat w0 [g] w → K.RowE w a L.length 2 (fun i => cPair (L.getD i p0))
theorem rdU_own {w0 : World} {g : K.Cs} {a : Option Addr} {n c : Nat} {L : List Int} (h : K.OwnG g 45 1 a n c (L.flatMap cU32)) (ln : L.length = n) : RdU w0 g a L := fun w hS => by
 subst ln
 exact K.Own.rowE 0 (hS.ownr 0 rfl h) rfl (fun _ => rfl)
theorem rdP_own {w0 : World} {g : K.Cs} {a : Option Addr} {n c : Nat} {L : List PairM} (h : K.OwnG g 59 2 a n c (L.flatMap cPair)) (ln : L.length = n) : RdP w0 g a L := fun w hS => by
 subst ln
 exact K.Own.rowE p0 (hS.ownr 0 rfl h) rfl (fun _ => rfl)
theorem rdU_tail {w0 : World} {g : K.Cs} {a : Option Addr} {cap : Nat} {L : List Int} (x : RdU w0 g a L) (h1 : ¬ L.length = 0) (hc : L.length ≤ cap) : RdU w0 g (K.shift a cap 1 1) (L.drop 1) := fun w h => by
 rw [List.length_drop]
 refine ((x w h).part 1 (L.length - 1) (by omega) hc).congr fun j hj => ?_
 show cU32 _ = cU32 _
 rw [List.getD_eq_getElem?_getD, List.getD_eq_getElem?_getD, List.getElem?_drop]
/-! ### what Apply makes, by the kinds -/
theorem rises_idI {xs : List Int} (h : rising xs) : Rises idI xs := rises_of h
theorem rises_key {xs : List PairM} (h : rising (keysP xs)) : Rises PairM.key xs := Rises.rising.2 h
theorem map_idI (xs : List Int) : xs.map idI = xs := List.map_id xs
section
variable {q s : List Int} {m : List PairM} {k v : Int}
theorem hasS (hr : rising s) : hasT s k = anyT idI k s := by rw [anyT_get, ← has_get (rises_idI hr), map_idI]
theorem hasM (hr : rising (keysP m)) : hasT (keysP m) k = anyT PairM.key k m := by rw [anyT_get, ← has_get (rises_key hr)]; rfl
theorem setT_eq (hr : rising s) (kind : Int) : setT s kind k = if anyT idI k s = true then (if kind = 4 then (keysR idI k k false s, 1) else (s, 3)) else if kind = 3 then (keysR idI k k true s, 1) else (s, 4) := by
 have hi := rises_idI hr
 unfold setT
 rw [hasS hr]
 cases h : anyT idI k s with
 | true =>
  simp only [if_true]
  rw [keysR_cut]
  rw [anyT_get] at h
  have := del_cut hi h
  rw [map_idI] at this
  rw [this]
 | false =>
  simp only [Bool.false_eq_true, if_false]
  rw [anyT_get] at h
  have hn : getT idI s k = none := by simpa using h
  rw [keysR_put hn]
  have := ins_put (f := idI) (k := k) s k
  rw [map_idI] at this
  rw [this]
theorem pairsT_eq (hr : rising (keysP m)) (kind : Int) : pairsT m kind k v = if anyT PairM.key k m = true then (if kind = 8 then (keysR PairM.key k ⟨k, v⟩ false m, 1, (lastT PairM.key k p0 m).val) else (m, 3, (lastT PairM.key k p0 m).val)) else if kind = 6 then (keysR PairM.key k ⟨k, v⟩ true m, 1, (lastT PairM.key k p0 m).val) else (m, 4, 0) := by
 have hi := rises_key hr
 unfold pairsT
 rw [hasM hr]
 cases h : anyT PairM.key k m with
 | true =>
  simp only [if_true]
  rw [keysR_cut]
  rw [anyT_get] at h
  have := del_cut hi h
  obtain ⟨x, hx⟩ := Option.isSome_iff_exists.1 h
  have h2 := at_get hi p0 hx
  unfold keysP
  rw [this, h2, lastT_get hi, hx]; rfl
 | false =>
  simp only [Bool.false_eq_true, if_false]
  rw [anyT_get] at h
  have hn : getT PairM.key m k = none := by simpa using h
  rw [keysR_put hn]
  have := ins_put (f := PairM.key) (k := k) m ⟨k, v⟩
  unfold keysP
  rw [this, lastT_get hi, hn]; rfl
theorem ap1 : applyT ⟨q, s, m⟩ 1 k v = (⟨q ++ [v], s, m⟩, 1, 0) := by simp [applyT, queueT, insT]
theorem ap2e (h : q.length = 0) : applyT ⟨q, s, m⟩ 2 k v = (⟨q, s, m⟩, 2, 0) := by simp [applyT, queueT, h]
theorem ap2 (h : ¬ q.length = 0) : applyT ⟨q, s, m⟩ 2 k v = (⟨q.drop 1, s, m⟩, 1, q.getD 0 0) := by simp [applyT, queueT, delT, h]
theorem apS (hr : rising s) {kind : Int} (h : 3 ≤ kind ∧ kind ≤ 5) : applyT ⟨q, s, m⟩ kind k v = if anyT idI k s = true then (if kind = 4 then (⟨q, keysR idI k k false s, m⟩, 1, 0) else (⟨q, s, m⟩, 3, 0)) else if kind = 3 then (⟨q, keysR idI k k true s, m⟩, 1, 0) else (⟨q, s, m⟩, 4, 0) := by
 unfold applyT
 rw [if_neg (by omega), if_pos h]
 simp only []
 rw [setT_eq hr]
 (repeat' split) <;> rfl
theorem apM (hr : rising (keysP m)) {kind : Int} (h : 6 ≤ kind ∧ kind ≤ 8) : applyT ⟨q, s, m⟩ kind k v = if anyT PairM.key k m = true then (if kind = 8 then (⟨q, s, keysR PairM.key k ⟨k, v⟩ false m⟩, 1, (lastT PairM.key k p0 m).val) else (⟨q, s, m⟩, 3, (lastT PairM.key k p0 m).val)) else if kind = 6 then (⟨q, s, keysR PairM.key k ⟨k, v⟩ true m⟩, 1, (lastT PairM.key k p0 m).val) else (⟨q, s, m⟩, 4, 0) := by
 unfold applyT
 rw [if_neg (by omega), if_neg (by omega), if_pos h]
 simp only []
 rw [pairsT_eq hr]
 (repeat' split) <;> rfl
theorem apN {kind : Int} (h : ¬ (1 ≤ kind ∧ kind ≤ 8)) : applyT ⟨q, s, m⟩ kind k v = (⟨q, s, m⟩, 0, 0) := by
 unfold applyT
 rw [if_neg (by omega), if_neg (by omega), if_neg (by omega)]
end
theorem tk_len {α : Type} {xs : List α} {j : Nat} (h : j ≤ xs.length) : (xs.take j).length = j := by rw [List.length_take]; omega
theorem tk_snoc {α : Type} {xs : List α} {d : α} {j : Nat} (h : j < xs.length) : xs.take (j + 1) = xs.take j ++ [xs.getD j d] := by
 rw [List.take_succ_eq_append_getElem h]; simp [h]
theorem anyT_next {α : Type} {f : α → Int} {k : Int} {d : α} {xs : List α} {j : Nat} {b : Bool} (h : anyT f k (xs.take j) = b) (hj : j < xs.length) : anyT f k (xs.take (j + 1)) = (b || decide (f (xs.getD j d) = k)) := by rw [anyT_succ hj, h]
theorem any_t {p : Prop} [Decidable p] : (true || decide p) = true := rfl
theorem any_y {p : Prop} [Decidable p] (h : p) : (false || decide p) = true := by simp [h]
theorem any_n {p : Prop} [Decidable p] (h : ¬ p) : (false || decide p) = false := by simp [h]
theorem any_y2 {p : Prop} [Decidable p] (b : Bool) (h : p) : (b || decide p) = true := by simp [h]
theorem any_n2 {p : Prop} [Decidable p] (b : Bool) (h : ¬ p) : (b || decide p) = b := by simp [h]
theorem last_y {k : Int} {m : List PairM} {j : Nat} (hj : j < m.length) (h : (m.getD j p0).key = k) : (m.getD j p0).val = (lastT PairM.key k p0 (m.take (j + 1))).val := by rw [lastT_succ (d := p0) hj, if_pos h]
theorem last_n {k v : Int} {m : List PairM} {j : Nat} (hv : v = (lastT PairM.key k p0 (m.take j)).val) (hj : j < m.length) (h : ¬ (m.getD j p0).key = k) : v = (lastT PairM.key k p0 (m.take (j + 1))).val := by rw [lastT_succ (d := p0) hj, if_neg h]; exact hv
end Go.Proofs.Ytnehocjmgnhhhaa

/- Operations one behind the other: model.Run. -/
namespace Go.Proofs.Ytnehocjmgnhhhaa
open Go.RowKit
set_option linter.unusedVariables false
attribute [local irreducible] K.KW K.RW K.DW K.OW K.QR K.KC
theorem rising_cut {s : List Int} {k : Int} (hr : rising s) : rising (cutT idI s k) := rising_of (cutT_rises (rises_idI hr))
theorem setT_ok {s : List Int} {kind k : Int} (hr : rising s) : (setT s kind k).1.length ≤ s.length + 1 ∧ rising (setT s kind k).1 := by
 have hi := rises_idI hr
 rw [setT_eq hr]
 cases h : anyT idI k s with
 | true =>
  simp only [if_true]
  split
  ·rw [keysR_cut]
   exact ⟨Nat.le_succ_of_le (List.length_filter_le _ _) , rising_cut hr⟩
  ·exact ⟨Nat.le_succ _, hr⟩
 | false =>
  simp only [Bool.false_eq_true, if_false]
  rw [anyT_get] at h
  have hn : getT idI s k = none := by simpa using h
  split
  ·rw [keysR_put hn]
   refine ⟨?_, rising_of (putT_rises (x := k) hi rfl hn)⟩
   rw [← ins_put (f := idI) (k := k) s k]
   exact Nat.le_of_eq (insT_len (by rw [map_idI]; exact posT_le _ _))
  ·exact ⟨Nat.le_succ _, hr⟩
theorem pairsT_ok {m : List PairM} {kind k v : Int} (hr : rising (keysP m)) : (pairsT m kind k v).1.length ≤ m.length + 1 ∧ rising (keysP (pairsT m kind k v).1) := by
 have hi := rises_key hr
 rw [pairsT_eq hr]
 cases h : anyT PairM.key k m with
 | true =>
  simp only [if_true]
  split
  ·rw [keysR_cut]
   exact ⟨Nat.le_succ_of_le (List.length_filter_le _ _) , Rises.rising.1 (cutT_rises hi)⟩
  ·exact ⟨Nat.le_succ _, hr⟩
 | false =>
  simp only [Bool.false_eq_true, if_false]
  rw [anyT_get] at h
  have hn : getT PairM.key m k = none := by simpa using h
  split
  ·rw [keysR_put hn]
   refine ⟨?_, Rises.rising.1 (putT_rises (x := ⟨k, v⟩) hi rfl hn)⟩
   rw [← ins_put (f := PairM.key) (k := k) m ⟨k, v⟩]
   have := posT_le (m.map PairM.key) k
   exact Nat.le_of_eq (insT_len (by simpa using this))
  ·exact ⟨Nat.le_succ _, hr⟩
theorem queueT_len (q : List Int) (kind v : Int) : (queueT q kind v).1.length ≤ q.length + 1 := by
 unfold queueT
 split
 ·exact Nat.le_of_eq (insT_len (Nat.le_refl _))
 ·split
  ·exact Nat.le_succ _
  ·rename_i h; rw [delT_len (by omega)]; omega
theorem applyT_ok {S : StM} {kind key val : Int} (h1 : rising S.s) (h2 : rising (keysP S.m)) :
  (applyT S kind key val).1.q.length ≤ S.q.length + 1 ∧ (applyT S kind key val).1.s.length ≤ S.s.length + 1 ∧ (applyT S kind key val).1.m.length ≤ S.m.length + 1 ∧ rising (applyT S kind key val).1.s ∧ rising (keysP (applyT S kind key val).1.m) := by
 unfold applyT
 (repeat' split)
 ·exact ⟨queueT_len _ _ _, Nat.le_succ _, Nat.le_succ _, h1, h2⟩
 ·exact ⟨Nat.le_succ _, (setT_ok h1).1, Nat.le_succ _, (setT_ok h1).2, h2⟩
 ·exact ⟨Nat.le_succ _, Nat.le_succ _, (pairsT_ok h2).1, h1, (pairsT_ok h2).2⟩
 ·exact ⟨Nat.le_succ _, Nat.le_succ _, Nat.le_succ _, h1, h2⟩
end Go.Proofs.Ytnehocjmgnhhhaa

/- Groups of memory: ranges over functions. -/
namespace Go.Proofs.Ytnehocjmgnhhhaa
open Go.RowKit
set_option linter.unusedVariables false
namespace K
section
variable {P : Program} {n : Nat} {F : Fr} {w w' w0 : World} {ls : List Cs} {Q : Exit → Fr → World → Prop}
theorem Sat.ob {l : Nat} {o : Obj} {g : Cs} (h : Sat w0 ls w) (i : Nat) (hi : nth ls i = g) (hg : g = [(l, o)]) (hn : noCells o = true) : Ob w l o :=
  ⟨(h.own (l, o) (nth_mem (i := i) (by rw [hi, hg]; exact List.mem_singleton.2 rfl))).2, hn⟩
theorem Sat.turn {l : Nat} {o o' : Obj} {g : Cs} (h : Sat w0 ls w) (i : Nat) (hi : nth ls i = g) (hg : g = [(l, o)]) (ht : Turn l w w') (ho : Ob w' l o') : Sat w0 (setn ls i [(l, o')]) w' := by
  have hid : ids (nth ls i) = [l] := by rw [hi, hg]; rfl
  refine h.put i _ ht.chg (fun k hk => by rw [hid]; exact List.mem_singleton.2 hk) (by simp [ids]) (fun c hcm => ?_)
  rw [List.mem_singleton.1 hcm, hid]
  exact ⟨ho.1, .inl (List.mem_singleton.2 rfl)⟩
theorem Sat.drop {l : Nat} {o : Obj} {g : Cs} (h : Sat w0 ls w) (i : Nat) (rest : List Nat) (hi : nth ls i = g) (hg : g = [(l, o)]) (ht : Turn l w w') (hp : (i :: rest).Nodup) : Sat w0 (K.pick rest ls) w' := by
  have h1 := h.pick (i :: rest) hp
  have hl : w0.heap.size ≤ l := (h1.own (l, o) (by show _ ∈ (nth ls i :: K.pick rest ls).flatten; rw [hi, hg]; simp)).1
  have hnd := h1.nd
  rw [show K.pick (i :: rest) ls = nth ls i :: K.pick rest ls from rfl, List.flatten_cons, ids_app, hi, hg, List.nodup_append] at hnd
  refine ⟨h1.chg.trans ht.chg (fun k hk hy => by unfold Is at hy; omega), hnd.2.1, fun c hc => ?_⟩
  have h2 := h1.own c (by show _ ∈ (nth ls i :: K.pick rest ls).flatten; rw [List.flatten_cons, List.mem_append]; exact .inr hc)
  have hne : c.1 ≠ l := fun e => hnd.2.2 l (by simp [ids]) c.1 (mem_ids hc) e.symm
  exact ⟨h2.1, (ht.block c.1 hne).trans h2.2⟩
theorem KW.grange {g : Operand} {ps : List Nat} {assign body : Code} {f : FuncId} {first cap : List Value} (hS : Sat w0 ls w) (hg : ev n F g = .func (.func f) first.toArray cap.toArray) (hf : callable P f = true) (hD : F n = undef)
    (h : ∀ fnid w1 r0 l gd gl, gd = [(r0, Obj.deferred (some []))] → gl = [(l, Obj.loop (mkLoop fnid n F ps assign body r0))] → Sat w0 (gl :: gd :: ls) w1 →
      KC P f (first ++ [Value.func (.yield l) #[] #[]] ++ cap).toArray w1 (fun _ w3 => ∃ r : Loop, Ob w3 l (.loop r) ∧ r.state ≠ .busy ∧ ∀ w4, Turn l w3 w4 → afterR Q (upd F n (.int .i64 r0)) w4 r.pending)) :
    KW none P n (.rangeFunc g ps.toArray assign body) Q F w := by
  refine KW.range hg hf hD fun fnid w1 r0 l hr hl hs hc hd ho => h fnid w1 r0 l _ _ rfl rfl ?_
  have := hS.add hc [(l, Obj.loop (mkLoop fnid n F ps assign body r0)), (r0, Obj.deferred (some []))] (by simp [ids]; omega) (fun c hcm => by
    rcases List.mem_cons.1 hcm with rfl | hcm
    · exact ⟨by show _ ≤ l; omega, ho.1⟩
    · rw [List.mem_singleton.1 hcm]; exact ⟨by show _ ≤ r0; omega, hd.1⟩)
  exact this.of (by simp)
theorem gafter {l : Nat} {F' : Fr} {rec : Loop} {gl : Cs} (i : Nat) (rest : List Nat) (hS : Sat w0 ls w) (hi : nth ls i = gl) (hg : gl = [(l, .loop rec)]) (hst : rec.state ≠ .busy) (h : ∀ w4, Sat w0 (pick rest ls) w4 → afterR Q F' w4 rec.pending)
    (hp : (i :: rest).Nodup := by decide) : ∃ r : Loop, Ob w l (.loop r) ∧ r.state ≠ .busy ∧ ∀ w4, Turn l w w4 → afterR Q F' w4 r.pending :=
  ⟨rec, hS.ob i hi hg rfl, hst, fun w4 ht => h w4 (hS.drop i rest hi hg ht hp)⟩
def YG (P : Program) (w0 : World) (l : Nat) (args : List Value) (b : Bool) (m : Cs) (R : Cs → Prop) : Prop :=
  ∀ (fr : Cs) (w : World), Sat w0 [m, fr] w → YS P l args w (fun v w' => v = .bool b ∧ ∃ m', R m' ∧ Sat w0 [m', fr] w')
theorem KC.ofG {f : FuncId} {args : Array Value} {R : Value → List Cs → Prop} {Q' : Value → World → Prop} (hS : Sat w0 ls w) (is rest : List Nat) (hk : GC P w0 f args (pick is ls) R)
    (h : ∀ v post w', R v post → Sat w0 (post ++ pick rest ls) w' → Q' v w') (hp : (is ++ rest).Nodup := by decide) : KC P f args w Q' := by
  refine KC.mono (hk (pick rest ls).flatten w ?_) ?_
  · refine (hS.pick (is ++ rest) hp).of ?_
    have : ∀ is rest : List Nat, pick (is ++ rest) ls = pick is ls ++ pick rest ls := by
      intro is rest
      induction is with
      | nil => rfl
      | cons i is ih => show nth ls i :: pick (is ++ rest) ls = _; rw [ih]; rfl
    rw [this]; simp
  · rintro v w' ⟨post, h1, h2⟩
    exact h v post w' h1 (h2.of (by simp))
theorem KC.one {f : FuncId} {args : Array Value} {yargs : List Value} {l : Nat} {Q' : Value → World → Prop} (hS : Sat w0 ls w) (is rest : List Nat)
    (hit : ∀ (m : Cs) (R : Cs → Prop), YG P w0 l yargs false m R → GC P w0 f args (pick is ls ++ [m]) (fun _ post => ∃ m', post = pick is ls ++ [m'] ∧ R m'))
    (h : YG P w0 l yargs false (pick rest ls).flatten (fun m' => ∀ v w, Sat w0 (pick is ls ++ [m']) w → Q' v w)) (hp : (is ++ rest).Nodup := by decide) : KC P f args w Q' := by
  refine KC.mono (hit _ _ h [] w ?_) ?_
  · refine (hS.pick (is ++ rest) hp).of ?_
    have : ∀ is rest : List Nat, pick (is ++ rest) ls = pick is ls ++ pick rest ls := by
      intro is rest
      induction is with
      | nil => rfl
      | cons i is ih => show nth ls i :: pick (is ++ rest) ls = _; rw [ih]; rfl
    rw [this]; simp
  · rintro v w' ⟨post, ⟨m', rfl, h1⟩, h2⟩
    exact h1 v w' (h2.of (by simp))
theorem YS.ground {l : Nat} {r : Loop} {ps : List Nat} {args : List Value} {R : Value → World → Prop} {gl : Cs} (i : Nat) (hS : Sat w0 ls w) (hi : nth ls i = gl) (hg : gl = [(l, .loop r)]) (ht : r.tmps = arr n F) (hp : r.params = ps.toArray) (hD : F n = undef) (hlen : args.length = ps.length)
    (hlt : (ps.all fun t => Nat.blt t n) = true) (h : KW (some l) P n r.assign (rb P n l r.body R) (setPs F (ps.zip args)) w) : YS P l args w R :=
  YS.round (hS.ob i hi hg rfl).1 ht hp hD hlen hlt h
theorem rb_g {l : Nat} {r : Loop} {body : Code} {R : Value → World → Prop} {gl : Cs} (i : Nat) (hS : Sat w0 ls w) (hi : nth ls i = gl) (hg : gl = [(l, .loop r)]) (hr : r.state = .ready)
    (h : ∀ w2 gl', gl' = [(l, .loop { r with state := .busy })] → Sat w0 (setn ls i gl') w2 → KW (some l) P n body (rq l R) F w2) : rb P n l body R .normal F w :=
  ⟨r, hS.ob i hi hg rfl, hr, fun w2 ht ho => h w2 _ rfl (hS.turn i hi hg ht ho)⟩
theorem rq_ret_g {l : Nat} {r : Loop} {R : Value → World → Prop} {gl : Cs} (i : Nat) (hS : Sat w0 ls w) (hi : nth ls i = gl) (hg : gl = [(l, .loop r)])
    (h : ∀ w2 gl', gl' = [(l, .loop { r with state := .done, pending := some .ret })] → Sat w0 (setn ls i gl') w2 → R (.bool false) w2) : rq l R .ret F w :=
  ⟨r, hS.ob i hi hg rfl, fun w2 ht ho => h w2 _ rfl (hS.turn i hi hg ht ho)⟩
theorem rq_normal_g {l : Nat} {r : Loop} {R : Value → World → Prop} {gl : Cs} (i : Nat) (hS : Sat w0 ls w) (hi : nth ls i = gl) (hg : gl = [(l, .loop r)])
    (h : ∀ w2 gl', gl' = [(l, .loop { r with state := .ready, pending := none })] → Sat w0 (setn ls i gl') w2 → R (.bool true) w2) : rq l R .normal F w :=
  ⟨r, hS.ob i hi hg rfl, fun w2 ht ho => h w2 _ rfl (hS.turn i hi hg ht ho)⟩
theorem GC.mkD {f : FuncId} {fn : Func} {c : Code} {args : Array Value} {pre : List Cs} {R : Value → List Cs → Prop} (hf : P.funcs[f]? = some fn) (hb : fn.body = some c) (hn : fn.ntmps = n) (l : List Value) (ha : args = l.toArray) (hl' : Nat.ble l.length n = true)
    (h : ∀ fr w, Sat w0 (pre ++ [fr]) w → KW none P n c (fun e G w' => (e = .normal ∨ e = .ret) ∧ ((G n = undef ∧ ∃ v, (results fn (arr n G)).run P w' = .ok v w' ∧ ∃ post, R v post ∧ Sat w0 (post ++ [fr]) w') ∨
      (∃ r : Nat, G n = .int .i64 r ∧ w'.heap[r]? = some (.deferred (some [])) ∧ ∀ w2, Turn r w' w2 → ∃ v, (results fn (arr n G)).run P w2 = .ok v w2 ∧ ∃ post, R v post ∧ Sat w0 (post ++ [fr]) w2))) (argF l) w) : GC P w0 f args pre R :=
  fun fr w hS => KC.mkD hf hb hn l ha hl' (h fr w hS)
theorem endD {r : Nat} {gd : Cs} {X : World → Prop} (i : Nat) (rest : List Nat) (hS : Sat w0 ls w) (hi : nth ls i = gd) (hg : gd = [(r, Obj.deferred (some []))]) (h : ∀ w2, Sat w0 (pick rest ls) w2 → X w2) (hp : (i :: rest).Nodup := by decide) :
    w.heap[r]? = some (.deferred (some [])) ∧ ∀ w2, Turn r w w2 → X w2 :=
  ⟨(hS.ob i hi hg rfl).1, fun w2 ht => h w2 (hS.drop i rest hi hg ht hp)⟩
end
end K
end Go.Proofs.Ytnehocjmgnhhhaa

/- Groups of memory: a range over a function whose rounds may leave it. -/
namespace Go.Proofs.Ytnehocjmgnhhhaa
open Go.RowKit
set_option linter.unusedVariables false
namespace K
section
variable {P : Program} {n : Nat} {F : Fr} {w w' w0 : World} {ls : List Cs} {Q : Exit → Fr → World → Prop}
def YGb (P : Program) (w0 : World) (l : Nat) (args : List Value) (m : Cs) (R : Bool → Cs → Prop) : Prop :=
  ∀ (fr : Cs) (w : World), Sat w0 [m, fr] w → YS P l args w (fun v w' => ∃ b, v = .bool b ∧ ∃ m', R b m' ∧ Sat w0 [m', fr] w')
theorem RY.gyieldb {ops : Array Oper} {o : Oper} {rest : List Oper} {x : Operand} {l : Nat} {as_ : List Operand} {ats : Array TypeId} {d : Option Nat} {m : Cs} {R : Bool → Cs → Prop} (hS : Sat w0 ls w) (i : Nat) (others : List Nat) (vs : List Value)
    (hy : YGb P w0 l vs m R) (hi : nth ls i = m) (hg : gd ops n F o = true) (h : ∀ b w' m', R b m' → Sat w0 (m' :: pick others ls) w' → RY P n ops rest Q (updo F d (.bool b)) w')
    (hd : o.dst = d := by rfl) (ho : o.op = .call { callee := .value x, args := as_.toArray, argTypes := ats } := by rfl) (hx : ev n F x = .func (.yield l) #[] #[] := by rfl) (hv : as_.map (ev n F) = vs := by rfl) (hp : (i :: others).Nodup := by decide) : RY P n ops (o :: rest) Q F w := by
  have hS2 : Sat w0 [m, (pick others ls).flatten] w := (hS.pick (i :: others) hp).of (by show (nth ls i :: pick others ls).flatten = _; rw [hi]; simp)
  refine RY.yield hd hg vs ho hx hv (hy _ _ hS2) ?_
  rintro v w' ⟨b, rfl, m', h1, h2⟩
  exact h b w' m' h1 (h2.of (by simp))
end
end K
end Go.Proofs.Ytnehocjmgnhhhaa
