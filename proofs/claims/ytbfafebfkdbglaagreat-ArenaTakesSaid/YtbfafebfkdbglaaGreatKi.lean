import Derived.Test.YtbfafebfkdbglaaGreatKg
/- Groups of memory: 'clear' of a whole row of the call's own. -/
namespace Go.Proofs.YtbfafebfkdbglaaGreat
open Go.RowKit
set_option linter.unusedVariables false
namespace K
section
variable {P : Program} {n : Nat} {F : Fr} {w w0 : World} {ls : List Cs} {K : Fr → World → Prop}
/-- 'clear' of a whole row of the call's own -/
theorem OW.gclr {o : Oper} {dd : Option Nat} {t e : TypeId} {x : Operand} {a : Option Addr} {size N cap c2 : Nat} {z : Value} {ys : List Value} {α : Type} {c : α → List Value} {l : Cs} (i : Nat) (zz : α) (hS : Sat w0 ls w) (how0 : OwnG l e size a N cap ys)
    (h : ∀ w' l', OwnG l' e size a N cap ((List.replicate N zz).flatMap c) → Sat w0 (setn ls i l') w' → K (updo F dd (.tuple #[])) w')
    (ht : P.underlying t = some (.slice e)) (hi : (P.info? e).map (fun i => (i.zero, i.size)) = some (some z, size)) (hz : z.cells.toList = c zz) (hc : (c zz).length = size) (h1 : ∀ v ∈ z.cells.toList, v.oneCell' = true)
    (hn : nth ls i = l := by rfl) (hd : o.dst = dd := by rfl) (ho : o.op = .call { callee := .builtin .clear, args := #[x], argTypes := #[t] } := by rfl) (hx : ev n F x = .slice a N c2 := by rfl) : OW P n F o w K := fun hok Q => by
  subst hd
  obtain ⟨inf, hq, hi⟩ := Option.map_eq_some_iff.1 hi
  simp only [Prod.mk.injEq] at hi
  obtain ⟨hi1, hi2⟩ := hi
  have hzs : z.cells.size = size := by rw [← hc, ← hz]; simp
  have how := hS.ownr i hn how0
  have fin : ∀ w', (Builtin.clear_ #[t] o.type #[.slice a N c2]).run P w = .ok (.tuple #[]) w' → (Chg (Ow a) w w') →
      Own w' w0.heap.size e size a N cap ((List.replicate N zz).flatMap c) → Oper.wp P o (fr n F) w (fun a w' => ∃ G, a = fr n G ∧ K G w') Q := by
    intro w' hrun e1 e3
    unfold Oper.wp
    rw [eval_fr]
    have hrun2 : (execOp (ev n F) o).run P w = .ok (.value (.tuple #[])) w' := by
      unfold execOp
      rw [ho]
      simp [resolve, invoke, builtin, hx, hrun]
    rw [hrun2]
    obtain ⟨l', h2, h3⟩ := hS.rput i hn how0 e1 e3 (fun j hj => .inl hj)
    exact ⟨_, put_fr n F o.dst _ hok, h w' l' h2 h3⟩
  rcases Nat.eq_zero_or_pos N with h0 | hN
  · subst h0
    refine fin w ?_ ((Chg.refl w).mono fun _ _ h => h.elim) ?_
    · cases a <;> simp [Builtin.clear_, run_underlying ht]
    · have : ys = [] := List.eq_nil_of_length_eq_zero (by rw [how.1]; simp)
      subst this; exact how
  · obtain ⟨g, rfl⟩ := how0.some_ (by have := how0.le; omega)
    obtain ⟨cur, h2, h3, h4, h5, h6, h7⟩ := how.cur
    have hle : N * size ≤ cap * size := Nat.mul_le_mul_right _ h4
    have hst := run_storeCells_at P g 0 e (Builtin.zeroCells z.cells N).toList 0 cur w h3 (by rw [zc_size, hzs, h6]; omega) (zc_one h1 N)
    rw [Nat.add_zero, zc_size, hzs] at hst
    have hcells : (Builtin.zeroCells z.cells N).toList = (List.replicate N zz).flatMap c := by
      unfold Builtin.zeroCells
      rw [zero_flat c zz z.cells hz]
    refine fin (w.setRow g (cur.toList.take 0 ++ (Builtin.zeroCells z.cells N).toList ++ cur.toList.drop (0 + N * size)).toArray) ?_ ((setRow_chg w g _).mono fun k _ hk => ⟨_, rfl, hk⟩) ?_
    · cases N with
      | zero => omega
      | succ k => simp [Builtin.clear_, run_underlying ht, zeroValue, typeInfo, hq, hi1, hst]
    · refine Own.of_cur (setRow_heap w g cur _ e _ h3) h2 h4 h5 ?_ ?_
      · simp only [List.size_toArray, List.length_append, List.length_take, List.length_drop, Array.length_toList, zc_size', hzs, h6]
        omega
      · simp only [List.toList_toArray]
        rw [List.take_zero, List.nil_append, hcells, List.take_append_of_le_length (by simp [List.length_flatMap, hc]), List.take_of_length_le (by simp [List.length_flatMap, hc])]
theorem OW.gcallw {o : Oper} {dd : Option Nat} {f : FuncId} {x : Operand} {l : List Operand} {ats : Array TypeId} {R : Value → List Cs → Prop} {v1 v2 : List Value} (hS : Sat w0 ls w) (is rest : List Nat) (vs : List Value) (hk : GC P w0 f vs.toArray (pick is ls) R)
    (h : ∀ v post w', R v post → Sat w0 (post ++ pick rest ls) w' → K (updo F dd v) w') (hd : o.dst = dd := by rfl) (ho : o.op = .call { callee := .value x, args := l.toArray, argTypes := ats } := by rfl) (hx : ev n F x = .func (.func f) v1.toArray v2.toArray := by rfl)
    (hv : v1 ++ l.map (ev n F) ++ v2 = vs := by rfl) (hf : callable P f = true := by kernel_rfl) (hp : (is ++ rest).Nodup := by decide) : OW P n F o w K :=
  OW.gcallv hS is rest vs hk h hx hd ho hv hf hp
/-- a contract on one of three groups that are held as one -/
theorem GC.in3 {f : FuncId} {args : Array Value} {A B md : Cs} {R : Value → List Cs → Prop} (h : GC P w0 f args [md] R) (hn : ∀ v post, R v post → ∃ md' rest, post = md' :: rest) :
    GC P w0 f args [[A, B, md].flatten] (fun v post => ∃ md' rest, R v (md' :: rest) ∧ post = [A, B, md'].flatten :: rest) := fun fr w hS => by
  have h1 : Sat w0 [A, B, md, fr] w := hS.of (by simp)
  have h2 : Sat w0 ([md] ++ [[A, B, fr].flatten]) w := (h1.pick [2, 0, 1, 3]).of (by simp [pick, nth])
  refine KC.mono (h _ w h2) ?_
  rintro v w' ⟨post, hR, hS'⟩
  obtain ⟨md', rest, rfl⟩ := hn v post hR
  have h3 : Sat w0 [md', rest.flatten, A, B, fr] w' := hS'.of (by simp)
  exact ⟨_, ⟨md', rest, hR, rfl⟩, (h3.pick [2, 3, 0, 1, 4]).of (by simp [pick, nth])⟩
end
end K
end Go.Proofs.YtbfafebfkdbglaaGreat

/- Groups of memory: ranges over functions. -/
namespace Go.Proofs.YtbfafebfkdbglaaGreat
open Go.RowKit
set_option linter.unusedVariables false
namespace K
section
variable {P : Program} {n : Nat} {F : Fr} {w w' w0 : World} {ls : List Cs} {Q : Exit → Fr → World → Prop}
/-- an object that is no row, in a group of its own -/
theorem Sat.ob {l : Nat} {o : Obj} {g : Cs} (h : Sat w0 ls w) (i : Nat) (hi : nth ls i = g) (hg : g = [(l, o)]) (hn : noCells o = true) : Ob w l o :=
  ⟨(h.own (l, o) (nth_mem (i := i) (by rw [hi, hg]; exact List.mem_singleton.2 rfl))).2, hn⟩
theorem Sat.turn {l : Nat} {o o' : Obj} {g : Cs} (h : Sat w0 ls w) (i : Nat) (hi : nth ls i = g) (hg : g = [(l, o)]) (ht : Turn l w w') (ho : Ob w' l o') : Sat w0 (setn ls i [(l, o')]) w' := by
  have hid : ids (nth ls i) = [l] := by rw [hi, hg]; rfl
  refine h.put i _ ht.chg (fun k hk => by rw [hid]; exact List.mem_singleton.2 hk) (by simp [ids]) (fun c hcm => ?_)
  rw [List.mem_singleton.1 hcm, hid]
  exact ⟨ho.1, .inl (List.mem_singleton.2 rfl)⟩
/-- one object turned, and nothing more is said of it -/
theorem Sat.drop {l : Nat} {o : Obj} {g : Cs} (h : Sat w0 ls w) (i : Nat) (rest : List Nat) (hi : nth ls i = g) (hg : g = [(l, o)]) (ht : Turn l w w') (hp : (i :: rest).Nodup) : Sat w0 (K.pick rest ls) w' := by
  have h1 := h.pick (i :: rest) hp
  have hl : w0.heap.size ≤ l := (h1.own (l, o) (by show _ ∈ (nth ls i :: K.pick rest ls).flatten; rw [hi, hg]; simp)).1
  have hnd := h1.nd
  rw [show K.pick (i :: rest) ls = nth ls i :: K.pick rest ls from rfl, List.flatten_cons, ids_app, hi, hg, List.nodup_append] at hnd
  refine ⟨h1.chg.trans ht.chg (fun k hk hy => by unfold Is at hy; omega), hnd.2.1, fun c hc => ?_⟩
  have h2 := h1.own c (by show _ ∈ (nth ls i :: K.pick rest ls).flatten; rw [List.flatten_cons, List.mem_append]; exact .inr hc)
  have hne : c.1 ≠ l := fun e => hnd.2.2 l (by simp [ids]) c.1 (mem_ids hc) e.symm
  exact ⟨h2.1, (ht.block c.1 hne).trans h2.2⟩
theorem KW.grange {g : Operand} {ps : List Nat} {assign body : Code} {f : FuncId} {first cap : List Value} (hS : Sat w0 ls w) (hg : ev n F g = .func (.func f) first.toArray cap.toArray) (hf : callable P f = true) (hD : F n = undef)
    (h : ∀ fnid w1 r0 l gd gl, gd = [(r0, Obj.deferred (some []))] → gl = [(l, Obj.loop (mkLoop fnid n F ps assign body r0))] → Sat w0 (gl :: gd :: ls) w1 →
      KC P f (first ++ [Value.func (.yield l) #[] #[]] ++ cap).toArray w1 (fun _ w3 => ∃ r : Loop, Ob w3 l (.loop r) ∧ r.state ≠ .busy ∧ ∀ w4, Turn l w3 w4 → afterR Q (upd F n (.int .i64 r0)) w4 r.pending)) :
    KW none P n (.rangeFunc g ps.toArray assign body) Q F w := by
  refine KW.range hg hf hD fun fnid w1 r0 l hr hl hs hc hd ho => h fnid w1 r0 l _ _ rfl rfl ?_
  have := hS.add hc [(l, Obj.loop (mkLoop fnid n F ps assign body r0)), (r0, Obj.deferred (some []))] (by simp [ids]; omega) (fun c hcm => by
    rcases List.mem_cons.1 hcm with rfl | hcm
    · exact ⟨by show _ ≤ l; omega, ho.1⟩
    · rw [List.mem_singleton.1 hcm]; exact ⟨by show _ ≤ r0; omega, hd.1⟩)
  exact this.of (by simp)
/-- an order that is drawn, over what stays of the groups, and of cells beside -/
theorem KW.gdrawnC {ρ : Option Nat} {id : Nat} {l : List Oper} (is : List Nat) (C : World → Prop) (hS : Sat w0 ls w) (hm : P.follows .mixedOrders = true)
    (h : ∀ w1, Sat w0 ls w1 → DW P n l.toArray (fun w => Sat w0 (pick is ls) w ∧ C w) l.length (Array.replicate l.length false) Q F w1) (hd : ndf l = true := by rfl) : KW ρ P n (.region id l.toArray true) Q F w :=
  KW.drawn _ hm (fun w1 hc _ => h w1 (hS.no hc)) hd
/-- what follows when the function that was ranged over has returned -/
theorem gafter {l : Nat} {F' : Fr} {rec : Loop} {gl : Cs} (i : Nat) (rest : List Nat) (hS : Sat w0 ls w) (hi : nth ls i = gl) (hg : gl = [(l, .loop rec)]) (hst : rec.state ≠ .busy) (h : ∀ w4, Sat w0 (pick rest ls) w4 → afterR Q F' w4 rec.pending)
    (hp : (i :: rest).Nodup := by decide) : ∃ r : Loop, Ob w l (.loop r) ∧ r.state ≠ .busy ∧ ∀ w4, Turn l w w4 → afterR Q F' w4 r.pending :=
  ⟨rec, hS.ob i hi hg rfl, hst, fun w4 ht => h w4 (hS.drop i rest hi hg ht hp)⟩
/-- yield called on the group m answers b, and leaves R -/
def YG (P : Program) (w0 : World) (l : Nat) (args : List Value) (b : Bool) (m : Cs) (R : Cs → Prop) : Prop :=
  ∀ (fr : Cs) (w : World), Sat w0 [m, fr] w → YS P l args w (fun v w' => v = .bool b ∧ ∃ m', R m' ∧ Sat w0 [m', fr] w')
/-- a call by a contract of groups, at the end of which anything is shown -/
theorem KC.ofG {f : FuncId} {args : Array Value} {R : Value → List Cs → Prop} {Q' : Value → World → Prop} (hS : Sat w0 ls w) (is rest : List Nat) (hk : GC P w0 f args (pick is ls) R)
    (h : ∀ v post w', R v post → Sat w0 (post ++ pick rest ls) w' → Q' v w') (hp : (is ++ rest).Nodup := by decide) : KC P f args w Q' := by
  refine KC.mono (hk (pick rest ls).flatten w ?_) ?_
  · refine (hS.pick (is ++ rest) hp).of ?_
    have : ∀ is rest : List Nat, pick (is ++ rest) ls = pick is ls ++ pick rest ls := by
      intro is rest
      induction is with
      | nil => rfl
      | cons i is ih => show nth ls i :: pick (is ++ rest) ls = _; rw [ih]; rfl
    rw [this]; simp
  · rintro v w' ⟨post, h1, h2⟩
    exact h v post w' h1 (h2.of (by simp))
/-- a function that yields once, and is left there -/
theorem KC.one {f : FuncId} {args : Array Value} {yargs : List Value} {l : Nat} {Q' : Value → World → Prop} (hS : Sat w0 ls w) (is rest : List Nat)
    (hit : ∀ (m : Cs) (R : Cs → Prop), YG P w0 l yargs false m R → GC P w0 f args (pick is ls ++ [m]) (fun _ post => ∃ m', post = pick is ls ++ [m'] ∧ R m'))
    (h : YG P w0 l yargs false (pick rest ls).flatten (fun m' => ∀ v w, Sat w0 (pick is ls ++ [m']) w → Q' v w)) (hp : (is ++ rest).Nodup := by decide) : KC P f args w Q' := by
  refine KC.mono (hit _ _ h [] w ?_) ?_
  · refine (hS.pick (is ++ rest) hp).of ?_
    have : ∀ is rest : List Nat, pick (is ++ rest) ls = pick is ls ++ pick rest ls := by
      intro is rest
      induction is with
      | nil => rfl
      | cons i is ih => show nth ls i :: pick (is ++ rest) ls = _; rw [ih]; rfl
    rw [this]; simp
  · rintro v w' ⟨post, ⟨m', rfl, h1⟩, h2⟩
    exact h1 v w' (h2.of (by simp))
theorem YS.ground {l : Nat} {r : Loop} {ps : List Nat} {args : List Value} {R : Value → World → Prop} {gl : Cs} (i : Nat) (hS : Sat w0 ls w) (hi : nth ls i = gl) (hg : gl = [(l, .loop r)]) (ht : r.tmps = arr n F) (hp : r.params = ps.toArray) (hD : F n = undef) (hlen : args.length = ps.length)
    (hlt : (ps.all fun t => Nat.blt t n) = true) (h : KW (some l) P n r.assign (rb P n l r.body R) (setPs F (ps.zip args)) w) : YS P l args w R :=
  YS.round (hS.ob i hi hg rfl).1 ht hp hD hlen hlt h
theorem rb_g {l : Nat} {r : Loop} {body : Code} {R : Value → World → Prop} {gl : Cs} (i : Nat) (hS : Sat w0 ls w) (hi : nth ls i = gl) (hg : gl = [(l, .loop r)]) (hr : r.state = .ready)
    (h : ∀ w2 gl', gl' = [(l, .loop { r with state := .busy })] → Sat w0 (setn ls i gl') w2 → KW (some l) P n body (rq l R) F w2) : rb P n l body R .normal F w :=
  ⟨r, hS.ob i hi hg rfl, hr, fun w2 ht ho => h w2 _ rfl (hS.turn i hi hg ht ho)⟩
theorem rq_ret_g {l : Nat} {r : Loop} {R : Value → World → Prop} {gl : Cs} (i : Nat) (hS : Sat w0 ls w) (hi : nth ls i = gl) (hg : gl = [(l, .loop r)])
    (h : ∀ w2 gl', gl' = [(l, .loop { r with state := .done, pending := some .ret })] → Sat w0 (setn ls i gl') w2 → R (.bool false) w2) : rq l R .ret F w :=
  ⟨r, hS.ob i hi hg rfl, fun w2 ht ho => h w2 _ rfl (hS.turn i hi hg ht ho)⟩
theorem rq_exit_g {l id : Nat} {r : Loop} {R : Value → World → Prop} {gl : Cs} (i : Nat) (hS : Sat w0 ls w) (hi : nth ls i = gl) (hg : gl = [(l, .loop r)])
    (h : ∀ w2 gl', gl' = [(l, .loop { r with state := .done, pending := some (.exit id) })] → Sat w0 (setn ls i gl') w2 → R (.bool false) w2) : rq l R (.exit id) F w :=
  ⟨r, hS.ob i hi hg rfl, fun w2 ht ho => h w2 _ rfl (hS.turn i hi hg ht ho)⟩
/-- a call of yield, by what it does with a group -/
theorem RY.gyield {ops : Array Oper} {o : Oper} {rest : List Oper} {x : Operand} {l : Nat} {as_ : List Operand} {ats : Array TypeId} {d : Option Nat} {b : Bool} {m : Cs} {R : Cs → Prop} (hS : Sat w0 ls w) (i : Nat) (others : List Nat) (vs : List Value)
    (hy : YG P w0 l vs b m R) (hi : nth ls i = m) (hg : gd ops n F o = true) (h : ∀ w' m', R m' → Sat w0 (m' :: pick others ls) w' → RY P n ops rest Q (updo F d (.bool b)) w')
    (hd : o.dst = d := by rfl) (ho : o.op = .call { callee := .value x, args := as_.toArray, argTypes := ats } := by rfl) (hx : ev n F x = .func (.yield l) #[] #[] := by rfl) (hv : as_.map (ev n F) = vs := by rfl) (hp : (i :: others).Nodup := by decide) : RY P n ops (o :: rest) Q F w := by
  have hS2 : Sat w0 [m, (pick others ls).flatten] w := (hS.pick (i :: others) hp).of (by show (nth ls i :: pick others ls).flatten = _; rw [hi]; simp)
  refine RY.yield hd hg vs ho hx hv (hy _ _ hS2) ?_
  rintro v w' ⟨rfl, m', h1, h2⟩
  exact h w' m' h1 (h2.of (by simp))
/-- a function that holds a range over a function -/
theorem GC.mkD {f : FuncId} {fn : Func} {c : Code} {args : Array Value} {pre : List Cs} {R : Value → List Cs → Prop} (hf : P.funcs[f]? = some fn) (hb : fn.body = some c) (hn : fn.ntmps = n) (l : List Value) (ha : args = l.toArray) (hl' : Nat.ble l.length n = true)
    (h : ∀ fr w, Sat w0 (pre ++ [fr]) w → KW none P n c (fun e G w' => (e = .normal ∨ e = .ret) ∧ ((G n = undef ∧ ∃ v, (results fn (arr n G)).run P w' = .ok v w' ∧ ∃ post, R v post ∧ Sat w0 (post ++ [fr]) w') ∨
      (∃ r : Nat, G n = .int .i64 r ∧ w'.heap[r]? = some (.deferred (some [])) ∧ ∀ w2, Turn r w' w2 → ∃ v, (results fn (arr n G)).run P w2 = .ok v w2 ∧ ∃ post, R v post ∧ Sat w0 (post ++ [fr]) w2))) (argF l) w) : GC P w0 f args pre R :=
  fun fr w hS => KC.mkD hf hb hn l ha hl' (h fr w hS)
theorem endD {r : Nat} {gd : Cs} {X : World → Prop} (i : Nat) (rest : List Nat) (hS : Sat w0 ls w) (hi : nth ls i = gd) (hg : gd = [(r, Obj.deferred (some []))]) (h : ∀ w2, Sat w0 (pick rest ls) w2 → X w2) (hp : (i :: rest).Nodup := by decide) :
    w.heap[r]? = some (.deferred (some [])) ∧ ∀ w2, Turn r w w2 → X w2 :=
  ⟨(hS.ob i hi hg rfl).1, fun w2 ht => h w2 (hS.drop i rest hi hg ht hp)⟩
end
end K
end Go.Proofs.YtbfafebfkdbglaaGreat
