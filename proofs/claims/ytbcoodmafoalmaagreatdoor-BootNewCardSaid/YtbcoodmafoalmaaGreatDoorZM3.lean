/- The general texts of the abstract machine, joined: Hw1, Hw2, Hw3, Hw4, Hw5, Hw6, Hw7, Hw8. -/
import Derived.Test.YtbcoodmafoalmaaGreatDoorZM4
import Derived.Lib.AppendStr
import Derived.Laws.IdiomStrings
import Derived.Laws.BytesArg
set_option linter.unusedVariables false
set_option linter.unusedSimpArgs false
/- Hw1 -/
namespace Go.Am
def noCf : Nat → List AV → St → Option (AV × St) := fun _ _ _ => none
def isB : Callee → Bool
  | .builtin _ => true
  | _ => false
def SubEnv : Env → Env → Prop
  | [], _ => True
  | (t, x) :: r, e => (∃ v, look e t = some v ∧ Sub v x) ∧ SubEnv r e
def dropE : List Nat → Env → Env
  | [], e => e
  | d :: r, e => dropE r (killE (2 * d) e)
def dropS : List Nat → St → St
  | [], s => s
  | d :: r, s => dropS r (killS (2 * d) s)
/- a state is, but for what is forgotten, that one -/
def At (E : Env) (S : St) (e : Env) (s : St) : Prop := ∃ D, SubEnv E (dropE D e) ∧ dropS D s = S
section
variable {P : Program} {c : Conf} {n : Nat} {ops : Array Oper} {rest : List Oper} {env : Env} {σ : St} {o : Oper} {K : Exit → Env → St → Prop} {k : Env → St → Prop}
theorem noCf_ok : CfOk P noCf := fun f as σ r σ' h => by cases h
noncomputable def oneCf (f : Nat) (as : List AV) (σ : St) (r : AV) (σ' : St) : Nat → List AV → St → Option (AV × St) :=
  fun f1 as1 σ1 => open Classical in if f1 = f ∧ as1 = as ∧ σ1 = σ then some (r, σ') else none
theorem oneCf_ok {f : Nat} {as : List AV} {σ σ' : St} {r : AV} (h : Ct P f as σ r σ') : CfOk P (oneCf f as σ r σ') := by
  intro f1 as1 σ1 r1 σ1' h1
  unfold oneCf at h1
  split at h1
  · rename_i e; obtain ⟨rfl, rfl, rfl⟩ := e; simp at h1; obtain ⟨rfl, rfl⟩ := h1; exact h
  · cases h1
theorem oneCf_at {f : Nat} {as : List AV} {σ σ' : St} {r : AV} : oneCf f as σ r σ' f as σ = some (r, σ') := by simp [oneCf]
theorem Sub.of_eq {x y : AV} (h : x = y) : Sub x y := h ▸ Sub.refl x
theorem SubEnv.rel {w : World} {g : G} {a : Act} {e : Env} (he : RelEnv w g a e) : ∀ {E : Env}, SubEnv E e → RelEnv w g a E
  | [], _, t, x, h => by simp [look] at h
  | (t', y) :: r, ⟨⟨v, h1, h2⟩, h3⟩, t, x, h => by
    rw [look_cons] at h
    split at h
    · rename_i e; subst e; cases h; exact h2 _ _ _ (he _ _ h1)
    · exact SubEnv.rel he h3 t x h
theorem drop_good {w : World} {a : Act} : ∀ (D : List Nat) {g : G} {e : Env} {s : St}, Good n w g a e s → ∃ g', Ext w g w g' ∧ Good n w g' a (dropE D e) (dropS D s)
  | [], g, e, s, h => ⟨g, Ext.refl _ _, h⟩
  | d :: r, g, e, s, h => by
    obtain ⟨h1, h2, h3⟩ := kill h.inv (2 * d) (fun hb => by have := (h.inv.bx _ hb).1; omega)
    obtain ⟨g', k1, k2⟩ := drop_good r ⟨h3 a e h.env, h2, h.defers.ext h1, h.size⟩
    exact ⟨g', h1.trans k1, k2⟩
theorem Tr.weak {code : Code} {E : Env} {S : St} (h : Tr P n code E S K) {e : Env} {s : St} (ha : At E S e s) : Tr P n code e s K := by
  obtain ⟨D, h1, rfl⟩ := ha
  intro F hF hrf w g a hg
  obtain ⟨g', k1, k2⟩ := drop_good D hg
  exact wpIn_mono (h F hF hrf w g' a ⟨SubEnv.rel k2.env h1, k2.inv, k2.defers, k2.size⟩) fun ex a2 w2 hq => hq.lift k1
/- what a test says -/
def BP (b : Bool) (p : Prop) : Prop := b = true ↔ p
theorem bp_t : BP true True := by simp [BP]
theorem bp_f : BP false False := by simp [BP]
theorem bp_d {p : Prop} [Decidable p] : BP (decide p) p := by simp [BP]
theorem bp_e {α : Type} [BEq α] [LawfulBEq α] {a b : α} : BP (a == b) (a = b) := by simp [BP]
theorem bp_ne {α : Type} [BEq α] [LawfulBEq α] {a b : α} : BP (a != b) (a ≠ b) := by simp [BP]
theorem bp_n {b : Bool} {p : Prop} (h : BP b p) : BP (!b) (¬ p) := by unfold BP at *; cases b <;> simp_all
theorem bp_b {b : Bool} : BP b (b = true) := Iff.rfl
theorem BP.no {b : Bool} {p : Prop} (h : BP b p) (hb : b = false) : ¬ p := fun hp => by have := h.2 hp; rw [hb] at this; cases this
theorem nT {p : Prop} (h : ¬ True) : p := (h trivial).elim
/- a branch that cannot be -/
theorem prn {G : Prop} (hF : False := by first | with_reducible exact h.elim | with_reducible exact nT h | with_reducible exact h.elim (fun x => x) | (with_reducible contradiction) | omega | (simp only [List.length_map] at h; omega)) : G := hF.elim
/- ends -/
theorem ct0 (hp : ProgOk P c) {f : Nat} {fn : Func} (hf : P.funcs[f]? = some fn) {code : Code} (hb : fn.body = some code) {as : List AV} {r : AV} (own : Bool) (hle : Nat.ble as.length fn.ntmps = true) (hr : r.free = true)
    (h : Tr P fn.ntmps code (enterE 0 as) [] (fun ex e s => (ex = .normal ∨ ex = .ret) ∧ ∃ r0 s1, retV c.te own fn.results.toList e s = some (r0, s1) ∧ Sub r0 r)) : Ct P f as [] r [] := by
  have key : ∀ (vs : List Value) (w : World) (g : G), RelL w g vs as → Inv w g [] → Calls P f vs.toArray w fun e w' => ∃ v g' s1, e = .returned v ∧ Ext w g w' g' ∧ Rel w' g' v r ∧ Inv w' g' s1 := by
    intro vs w g hrl hi
    refine enter_sound hf hb hle h hrl hi fun ex a' w' g' env' σ1 h1 h2 h3 => ?_
    obtain ⟨hex, r0, s1, h4, h5⟩ := h3
    obtain ⟨v, g2, q1, q2, q3, q4⟩ := ret_sound hp h2 h4
    exact ⟨hex, v, q1, v, g2, s1, rfl, h1.trans q2, h5 _ _ _ q3, q4⟩
  refine ⟨⟨fn, hf, by simp [hb]⟩, fun vs w g hrl hi => (key vs w g hrl hi).mono ?_⟩
  rintro e w' ⟨v, g1, s1, rfl, h1, h2, h3⟩
  have hbx : ∀ b, ¬ g.bx b := fun b hb => by obtain ⟨_, cs, hc⟩ := hi.bx b hb; simp [look] at hc
  refine ⟨v, { β := fun _ => none, own := g1.own, oth := g1.oth, sp := g1.sp, bx := fun _ => False, lo := g.lo }, rfl, ⟨h1.size, h1.keep, h1.own, h1.oth, h1.shape, fun b hb => absurd hb (hbx b), ⟨rfl, h1.lo.2⟩, h1.sp⟩, ?_, ⟨fun b B hB => ?_, fun b => ?_, fun b b' blk hq => ?_, h3.lt, fun b hb => hb.elim, h3.dis, h3.im, Nat.le_trans hi.lo h1.size, .empty h3.sx.lt (fun _ => rfl)⟩⟩
  · exact Rel.free (g := g1) (g' := { β := fun _ => none, own := g1.own, oth := g1.oth, sp := g1.sp, bx := fun _ => False, lo := g.lo }) (fun b o v q1 q2 => ⟨q1, q2⟩) h2 hr
  · simp [look] at hB
  · simp [look]
  · simp at hq
theorem w_fin {te : TE} {own : Bool} {rs : List ResultVar} {e : Env} {s s1 : St} {r r0 : AV} (h : retV te own rs e s = some (r0, s1)) (hs : Sub r0 r) : (Exit.ret = .normal ∨ Exit.ret = .ret) ∧ ∃ r0 s1, retV te own rs e s = some (r0, s1) ∧ Sub r0 r := ⟨.inr rfl, r0, s1, h, hs⟩
theorem w_next {ι : Type} {I : ι → Prop} {m : ι → Nat} {i : ι} {E : ι → Env} {S : ι → St} {e : Env} {s : St} (j : ι) (h1 : I j) (h2 : m j < m i) (D : List Nat) (h3 : SubEnv (E j) (dropE D e)) (h4 : dropS D s = S j) : ∃ j, I j ∧ m j < m i ∧ At (E j) (S j) e s := ⟨j, h1, h2, D, h3, h4⟩
theorem at_of {E : Env} {S : St} {e : Env} {s : St} (D : List Nat) (h3 : SubEnv E (dropE D e)) (h4 : dropS D s = S) : At E S e s := ⟨D, h3, h4⟩
theorem sub_nil {e : Env} : SubEnv [] e := trivial
theorem sub_eq {t : Nat} {x v : AV} {r e : Env} (h : look e t = some v) (hs : v = x) (hr : SubEnv r e) : SubEnv ((t, x) :: r) e := ⟨⟨v, h, Sub.of_eq hs⟩, hr⟩
/- code -/
theorem w_skip (h : K .normal env σ) : Tr P n .skip env σ K := fun _ _ _ _ g _ hg => wpIn_skip ⟨env, σ, g, Ext.refl _ _, hg, h⟩
theorem w_exit {id : Nat} (h : K (.exit id) env σ) : Tr P n (.exit id) env σ K := fun _ _ _ _ g _ hg => wpIn_exit ⟨env, σ, g, Ext.refl _ _, hg, h⟩
theorem w_ret (h : K .ret env σ) : Tr P n .ret env σ K := fun _ _ _ _ g _ hg => wpIn_ret ⟨env, σ, g, Ext.refl _ _, hg, h⟩
theorem w_reg (hp : ProgOk P c) {id : Nat} {env' : Env} {σ' : St} {l : List Oper} (hz : regFrz ops env σ = (env', σ')) (hl : ops.toList = l) (h : hOps P n ops l env' σ' (K .normal)) : Tr P n (.region id ops false) env σ K := by
  subst hl
  refine hCode_sound hp (.region id ops false) ?_
  simp only [hCode, hReg, hz]; exact h
theorem w_regD (hp : ProgOk P c) {id m : Nat} {env' : Env} {σ' : St} {l1 l2 : List Oper} {news : List Nat} (hm : drawM ops = some m) (hz : regFrz ops env σ = (env', σ')) (h1 : ops.toList.take m = l1) (h2 : ops.toList.drop m = l2) (h3 : newsOf l1 = news)
    (h : hSK P c n ops news l1 env' σ' (fun env σ => hOps P n ops l2 env σ (K .normal))) : Tr P n (.region id ops true) env σ K := by
  subst h3; subst h1; subst h2
  refine hCode_sound hp (.region id ops true) ?_
  simp only [hCode, hReg, hz, hm]; exact h
theorem w_seq {a b : Code} (h : Tr P n a env σ (fun ex env σ => match ex with
    | .normal => Tr P n b env σ K
    | ex => K ex env σ)) : Tr P n (.seq a b) env σ K := by
  intro F hF hrf w g ac hg
  refine wpIn_seq (wpIn_mono (h F hF hrf.seq.1 w g ac hg) ?_)
  rintro ex a' w' ⟨env', σ', g', h1, h2, h3⟩
  cases ex with
  | normal => exact wpIn_mono (h3 F hF hrf.seq.2 w' g' a' h2) fun ex a2 w2 hq => hq.lift h1
  | exit id => exact ⟨env', σ', g', h1, h2, h3⟩
  | goto l => exact ⟨env', σ', g', h1, h2, h3⟩
  | ret => exact ⟨env', σ', g', h1, h2, h3⟩
  | panic ch => exact ⟨env', σ', g', h1, h2, h3⟩
  | outgrown => exact ⟨env', σ', g', h1, h2, h3⟩
theorem Tr.mono {code : Code} {K' : Exit → Env → St → Prop} (h : Tr P n code env σ K) (hk : ∀ ex e s, K ex e s → K' ex e s) : Tr P n code env σ K' := fun F hF hrf w g a hg =>
  wpIn_mono (h F hF hrf w g a hg) fun ex a' w' ⟨e, s, g', h1, h2, h3⟩ => ⟨e, s, g', h1, h2, hk _ _ _ h3⟩
theorem w_cond {x : Operand} {a b : Code} (p : Bool) (hp : ev env x = some (.t (.bool p))) (ht : p = true → Tr P n a env σ K) (hf : p = false → Tr P n b env σ K) : Tr P n (.cond x a b) env σ K := by
  intro F hF hrf w g ac hg
  have hv := rel_bool (ev_rel hg.env hp)
  cases p with
  | true => exact wpIn_cond_true hv (ht rfl F hF hrf.cond.1 w g ac hg)
  | false => exact wpIn_cond_false hv (hf rfl F hF hrf.cond.2 w g ac hg)
theorem w_condT {x : Operand} {a b : Code} (hp : ev env x = some (.t (.bool true))) (ht : Tr P n a env σ K) : Tr P n (.cond x a b) env σ K := w_cond true hp (fun _ => ht) (fun h => by cases h)
theorem w_condF {x : Operand} {a b : Code} (hp : ev env x = some (.t (.bool false))) (hf : Tr P n b env σ K) : Tr P n (.cond x a b) env σ K := w_cond false hp (fun h => by cases h) (fun _ => hf)
theorem w_condP {x : Operand} {a b : Code} {t : Bool} {p : Prop} (hp : ev env x = some (.t (.bool t))) (hb : BP t p := by first | with_reducible exact bp_t | with_reducible exact bp_f | with_reducible exact bp_d | with_reducible exact bp_e | with_reducible exact bp_ne | with_reducible exact bp_n bp_t | with_reducible exact bp_n bp_f | with_reducible exact bp_n bp_d | with_reducible exact bp_n bp_e | with_reducible exact bp_n bp_b | exact bp_b) (ht : p → Tr P n a env σ K) (hf : ¬ p → Tr P n b env σ K) : Tr P n (.cond x a b) env σ K :=
  w_cond t hp (fun h => ht (hb.1 h)) (fun h => hf (hb.no h))
theorem w_block {id : Nat} {b : Code} (h : Tr P n b env σ (fun ex env σ => match ex with
    | .exit i => (match Nat.beq i id with
      | true => K .normal env σ
      | false => K (.exit i) env σ)
    | ex => K ex env σ)) : Tr P n (.block id b) env σ K := by
  intro F hF hrf w g a hg
  refine wpIn_block (wpIn_mono (h F hF hrf.block w g a hg) ?_)
  rintro ex a' w' ⟨env', σ', g', h1, h2, h3⟩
  cases ex with
  | normal => exact ⟨env', σ', g', h1, h2, h3⟩
  | exit i =>
    simp only [Exit.inBlock]
    by_cases e : i = id
    · subst e
      simp at h3 ⊢
      exact ⟨env', σ', g', h1, h2, h3⟩
    · simp only [beq_false e] at h3
      simp only [if_neg e]
      exact ⟨env', σ', g', h1, h2, h3⟩
  | goto l => exact ⟨env', σ', g', h1, h2, h3⟩
  | ret => exact ⟨env', σ', g', h1, h2, h3⟩
  | panic ch => exact ⟨env', σ', g', h1, h2, h3⟩
  | outgrown => exact ⟨env', σ', g', h1, h2, h3⟩
theorem w_loop {ι : Type} (I : ι → Prop) (E : ι → Env) (S : ι → St) (m : ι → Nat) {b : Code} (i0 : ι) (h0 : I i0) (ha : At (E i0) (S i0) env σ)
    (step : ∀ i, I i → Tr P n b (E i) (S i) (fun ex e s => match ex with
      | .normal => ∃ j, I j ∧ m j < m i ∧ At (E j) (S j) e s
      | ex => K ex e s)) : Tr P n (.loop b) env σ K := by
  refine Tr.loop (I := fun k e s => ∃ i, I i ∧ m i = k ∧ At (E i) (S i) e s) (m i0) ⟨i0, h0, rfl, ha⟩ ?_
  rintro k e s ⟨i, hi, rfl, hat⟩
  refine Tr.mono ((step i hi).weak hat) fun ex e s h => ?_
  cases ex with
  | normal => obtain ⟨j, h1, h2, h3⟩ := h; exact ⟨m j, h2, j, h1, rfl, h3⟩
  | exit id => exact h
  | goto l => exact h
  | ret => exact h
  | panic ch => exact h
  | outgrown => exact h
/- operations -/
theorem hStep_guard {o : Oper} {env : Env} {σ : St} {K : AV → Env → St → Prop} (h : hStep P { o with guard := none } env σ K) : hStep P o env σ K := fun w g a hi he next Q hn => h w g a hi he next Q hn
theorem stillV_guard (cf : Nat → List AV → St → Option (AV × St)) (news : List Nat) (env : Env) : stillV c cf news { o with guard := none } env σ = stillV c cf news o env σ := rfl
theorem w_nil (h : k env σ) : hOps P n ops [] env σ k := h
theorem w_step (hp0 : ProgOk P c) {x : AV} {e e2 : Env} {s : St} (hg : o.guard = none) (hs : stepV c noCf o env σ = some (x, e, s)) (hp : putV n o.dst x e = some e2) (h : hOps P n ops rest e2 s k) :
    hOps P n ops (o :: rest) env σ k := by
  simp only [hOps, wantedH, hg]
  exact hStep.of hp0 noCf_ok hs ⟨e2, hp, h⟩
def isFrz : Op → Bool
  | .buildSlice _ _ _ => true
  | .store _ _ _ => true
  | _ => false
theorem w_stepZ (hp0 : ProgOk P c) {x : AV} {env' e e2 : Env} {σ' s : St} (hg : o.guard = none) (hk : isFrz o.op = true) (hz : preFrz o env σ = (env', σ')) (hs : memV c.toCfg o env' σ' = some (x, e, s)) (hp : putV n o.dst x e = some e2) (h : hOps P n ops rest e2 s k) :
    hOps P n ops (o :: rest) env σ k := by
  refine w_step hp0 (x := x) (e := e) (s := s) hg ?_ hp h
  unfold stepV
  split <;> rename_i ho <;> simp only [ho, isFrz] at hk <;> first | (cases hk; done) | (rw [hz]; exact hs)
theorem map_get {α β : Type} {f : α → β} {l : List α} {i : Nat} {x : α} (h : l[i]? = some x) : (l.map f)[i]? = some (f x) := by simp [h]
theorem natOf_ofNat (k : Nat) : natOf (k : Int) = some k := rfl
theorem w_index (hp0 : ProgOk P c) {t s0 b0 e : Nat} {z0 : List T} {esz ebb : Nat} {ez : List T} {ek : TK} {xo io : Operand} {m : SM} {sz : Nat} {es : List (List T)} {kk : IntKind} {kc : Nat} {cc : List T} {e2 : Env} (hg : o.guard = none) (ho : o.op = .indexAddr t xo io) (hx : ev env xo = some (.t (.slice m sz es)))
    (hi : ev env io = some (.t (.int kk (Int.ofNat kc)))) (ht : look c.te t = some ⟨s0, b0, z0, .slice e⟩) (he : look c.te e = some ⟨esz, ebb, ez, ek⟩) (hsz : sz = esz) (hc : es[kc]? = some cc) (hp : putV n o.dst (.t (.ptr cc)) env = some e2)
    (h : hOps P n ops rest e2 σ k) : hOps P n ops (o :: rest) env σ k := by
  refine w_step hp0 (x := .t (.ptr cc)) (e := env) (s := σ) hg ?_ hp h
  unfold stepV
  rw [ho]
  simp only [pureV, hx, hi, indexAddrV, natOf, ht, he, hsz, hc, if_true]
theorem w_indexE (hp0 : ProgOk P c) {t s0 b0 e : Nat} {z0 : List T} {esz ebb : Nat} {ez : List T} {ek : TK} {xo io : Operand} {m : SM} {sz : Nat} {es : List (List T)} {kk : IntKind} {kc : Nat} {nn : Int} {cc : List T} {e2 : Env} (hg : o.guard = none) (ho : o.op = .indexAddr t xo io) (hx : ev env xo = some (.t (.slice m sz es)))
    (hi : ev env io = some (.t (.int kk nn))) (ht : look c.te t = some ⟨s0, b0, z0, .slice e⟩) (he : look c.te e = some ⟨esz, ebb, ez, ek⟩) (hsz : sz = esz) (hn : nn = (kc : Int)) (hc : es[kc]? = some cc) (hp : putV n o.dst (.t (.ptr cc)) env = some e2)
    (h : hOps P n ops rest e2 σ k) : hOps P n ops (o :: rest) env σ k := by
  subst hn
  refine w_step hp0 (x := .t (.ptr cc)) (e := env) (s := σ) hg ?_ hp h
  unfold stepV
  rw [ho]
  simp only [pureV, hx, hi, indexAddrV, natOf_ofNat, ht, he, hsz, hc, if_true]
theorem s_index {news : List Nat} {t s0 b0 e : Nat} {z0 : List T} {esz ebb : Nat} {ez : List T} {ek : TK} {xo io : Operand} {m : SM} {sz : Nat} {es : List (List T)} {kk : IntKind} {kc : Nat} {cc : List T} {e2 : Env} (hg : o.guard = none) (ho : o.op = .indexAddr t xo io) (hx : ev env xo = some (.t (.slice m sz es)))
    (hi : ev env io = some (.t (.int kk (Int.ofNat kc)))) (ht : look c.te t = some ⟨s0, b0, z0, .slice e⟩) (he : look c.te e = some ⟨esz, ebb, ez, ek⟩) (hsz : sz = esz) (hc : es[kc]? = some cc) (hp : putV n o.dst (.t (.ptr cc)) env = some e2)
    (h : hSK P c n ops news rest e2 σ k) : hSK P c n ops news (o :: rest) env σ k := by
  simp only [hSK, wantedH, hg]
  refine ⟨noCf, .t (.ptr cc), [], noCf_ok, ?_, e2, hp, h⟩
  unfold stillV
  rw [ho]
  simp only [pureV, hx, hi, indexAddrV, natOf, ht, he, hsz, hc, if_true]
theorem w_guard {j d : Nat} {want b : Bool} {oj : Oper} {e2 : Env} (hg : o.guard = some (j, want)) (hj : ops[j]? = some oj) (hd : oj.dst = some d) (hl : look env d = some (.t (.bool b))) (hp : putV n o.dst (.t .undef) ((d, .t (.bool (!want))) :: env) = some e2)
    (ht : b = want → hOps P n ops ({ o with guard := none } :: rest) ((d, .t (.bool want)) :: env) σ k)
    (hf : b = !want → hOps P n ops rest e2 σ k) : hOps P n ops (o :: rest) env σ k := by
  simp only [hOps, wantedH, hg, hj, hd, hl]
  exact ⟨fun h => hStep_guard (by simpa only [hOps, wantedH] using ht h), fun h => ⟨e2, hp, hf h⟩⟩
theorem w_gT {j d : Nat} {b : Bool} {oj : Oper} {e2 : Env} (hg : o.guard = some (j, true)) (hj : ops[j]? = some oj) (hd : oj.dst = some d) (hl : look env d = some (.t (.bool b))) (hp : putV n o.dst (.t .undef) ((d, .t (.bool false)) :: env) = some e2)
    (ht : b = true → hOps P n ops ({ o with guard := none } :: rest) ((d, .t (.bool true)) :: env) σ k)
    (hf : b = false → hOps P n ops rest e2 σ k) : hOps P n ops (o :: rest) env σ k := w_guard hg hj hd hl hp ht hf
theorem w_gF {j d : Nat} {b : Bool} {oj : Oper} {e2 : Env} (hg : o.guard = some (j, false)) (hj : ops[j]? = some oj) (hd : oj.dst = some d) (hl : look env d = some (.t (.bool b))) (hp : putV n o.dst (.t .undef) ((d, .t (.bool true)) :: env) = some e2)
    (ht : b = false → hOps P n ops ({ o with guard := none } :: rest) ((d, .t (.bool false)) :: env) σ k)
    (hf : b = true → hOps P n ops rest e2 σ k) : hOps P n ops (o :: rest) env σ k := w_guard hg hj hd hl hp ht hf
theorem w_gTP {j d : Nat} {b : Bool} {p : Prop} {oj : Oper} {e2 : Env} (hg : o.guard = some (j, true)) (hj : ops[j]? = some oj) (hd : oj.dst = some d) (hl : look env d = some (.t (.bool b))) (hp : putV n o.dst (.t .undef) ((d, .t (.bool false)) :: env) = some e2) (hb : BP b p := by first | with_reducible exact bp_t | with_reducible exact bp_f | with_reducible exact bp_d | with_reducible exact bp_e | with_reducible exact bp_ne | with_reducible exact bp_n bp_t | with_reducible exact bp_n bp_f | with_reducible exact bp_n bp_d | with_reducible exact bp_n bp_e | with_reducible exact bp_n bp_b | exact bp_b)
    (ht : p → hOps P n ops ({ o with guard := none } :: rest) ((d, .t (.bool true)) :: env) σ k)
    (hf : ¬ p → hOps P n ops rest e2 σ k) : hOps P n ops (o :: rest) env σ k := w_gT hg hj hd hl hp (fun h => ht (hb.1 h)) (fun h => hf (hb.no h))
theorem w_gFP {j d : Nat} {b : Bool} {p : Prop} {oj : Oper} {e2 : Env} (hg : o.guard = some (j, false)) (hj : ops[j]? = some oj) (hd : oj.dst = some d) (hl : look env d = some (.t (.bool b))) (hp : putV n o.dst (.t .undef) ((d, .t (.bool true)) :: env) = some e2) (hb : BP b p := by first | with_reducible exact bp_t | with_reducible exact bp_f | with_reducible exact bp_d | with_reducible exact bp_e | with_reducible exact bp_ne | with_reducible exact bp_n bp_t | with_reducible exact bp_n bp_f | with_reducible exact bp_n bp_d | with_reducible exact bp_n bp_e | with_reducible exact bp_n bp_b | exact bp_b)
    (ht : ¬ p → hOps P n ops ({ o with guard := none } :: rest) ((d, .t (.bool false)) :: env) σ k)
    (hf : p → hOps P n ops rest e2 σ k) : hOps P n ops (o :: rest) env σ k := w_gF hg hj hd hl hp (fun h => ht (hb.no h)) (fun h => hf (hb.1 h))
theorem w_guardU {j d : Nat} {want : Bool} {oj : Oper} {e2 : Env} (hg : o.guard = some (j, want)) (hj : ops[j]? = some oj) (hd : oj.dst = some d) (hl : look env d = some (.t .undef)) (hp : putV n o.dst (.t .undef) env = some e2)
    (h : hOps P n ops rest e2 σ k) : hOps P n ops (o :: rest) env σ k := by
  simp only [hOps, wantedH, hg, hj, hd, hl]
  exact ⟨e2, hp, h⟩
theorem w_call (hp0 : ProgOk P c) {cl : Call} {f : Nat} {as as' : List AV} {env' e e2 : Env} {σ' σ2 s : St} {r x : AV} (hg : o.guard = none) (ho : o.op = .call cl) (hb : isB cl.callee = false) (hc : calleeV c env cl = some (f, as)) (hm : mem1 f c.own = false)
    (hz : frzIn σ as env σ = (as', env', σ')) (hfr : freeL as' = true) (hct : Ct P f as' [] r σ2) (hh : handOver o.dst r σ2 env' σ' = some (x, e, s)) (hp : putV n o.dst x e = some e2) (h : hOps P n ops rest e2 s k) :
    hOps P n ops (o :: rest) env σ k := by
  simp only [hOps, wantedH, hg]
  refine hStep.of hp0 (oneCf_ok hct) (x := x) (e := e) (s := s) ?_ ⟨e2, hp, h⟩
  have hs : callOpV c (oneCf f as' [] r σ2) o.dst cl env σ = some (x, e, s) := by
    simp only [callOpV, hc, hm, hz, hfr, oneCf_at]
    exact hh
  unfold stepV
  rw [ho]
  simp only
  split
  · rename_i hq; rw [hq] at hb; simp [isB] at hb
  · rename_i hq; rw [hq] at hb; simp [isB] at hb
  · rename_i hq; rw [hq] at hb; simp [isB] at hb
  · rename_i hq; rw [hq] at hb; simp [isB] at hb
  · exact hs
  · exact hs
/- operations whose order is drawn -/
theorem s_nil {news : List Nat} (h : k env σ) : hSK P c n ops news [] env σ k := h
theorem s_step {news : List Nat} {x : AV} {e2 : Env} {nb s : St} (hg : o.guard = none) (hs : stillV c noCf news o env σ = some (x, nb)) (hn : nb ++ σ = s) (hp : putV n o.dst x env = some e2) (h : hSK P c n ops news rest e2 s k) :
    hSK P c n ops news (o :: rest) env σ k := by
  subst hn
  simp only [hSK, wantedH, hg]
  exact ⟨noCf, x, nb, noCf_ok, hs, e2, hp, h⟩
theorem s_guard {news : List Nat} {j d : Nat} {want b : Bool} {oj : Oper} {e2 : Env} (hg : o.guard = some (j, want)) (hj : ops[j]? = some oj) (hd : oj.dst = some d) (hl : look env d = some (.t (.bool b))) (hp : putV n o.dst (.t .undef) ((d, .t (.bool (!want))) :: env) = some e2)
    (ht : b = want → hSK P c n ops news ({ o with guard := none } :: rest) ((d, .t (.bool want)) :: env) σ k)
    (hf : b = !want → hSK P c n ops news rest e2 σ k) : hSK P c n ops news (o :: rest) env σ k := by
  simp only [hSK, wantedH, hg, hj, hd, hl]
  exact ⟨fun h => by simpa only [hSK, wantedH, stillV_guard] using ht h, fun h => ⟨e2, hp, hf h⟩⟩
theorem s_gT {news : List Nat} {j d : Nat} {b : Bool} {oj : Oper} {e2 : Env} (hg : o.guard = some (j, true)) (hj : ops[j]? = some oj) (hd : oj.dst = some d) (hl : look env d = some (.t (.bool b))) (hp : putV n o.dst (.t .undef) ((d, .t (.bool false)) :: env) = some e2)
    (ht : b = true → hSK P c n ops news ({ o with guard := none } :: rest) ((d, .t (.bool true)) :: env) σ k)
    (hf : b = false → hSK P c n ops news rest e2 σ k) : hSK P c n ops news (o :: rest) env σ k := s_guard hg hj hd hl hp ht hf
theorem s_gF {news : List Nat} {j d : Nat} {b : Bool} {oj : Oper} {e2 : Env} (hg : o.guard = some (j, false)) (hj : ops[j]? = some oj) (hd : oj.dst = some d) (hl : look env d = some (.t (.bool b))) (hp : putV n o.dst (.t .undef) ((d, .t (.bool true)) :: env) = some e2)
    (ht : b = false → hSK P c n ops news ({ o with guard := none } :: rest) ((d, .t (.bool false)) :: env) σ k)
    (hf : b = true → hSK P c n ops news rest e2 σ k) : hSK P c n ops news (o :: rest) env σ k := s_guard hg hj hd hl hp ht hf
theorem s_gTP {news : List Nat} {j d : Nat} {b : Bool} {p : Prop} {oj : Oper} {e2 : Env} (hg : o.guard = some (j, true)) (hj : ops[j]? = some oj) (hd : oj.dst = some d) (hl : look env d = some (.t (.bool b))) (hp : putV n o.dst (.t .undef) ((d, .t (.bool false)) :: env) = some e2) (hb : BP b p := by first | with_reducible exact bp_t | with_reducible exact bp_f | with_reducible exact bp_d | with_reducible exact bp_e | with_reducible exact bp_ne | with_reducible exact bp_n bp_t | with_reducible exact bp_n bp_f | with_reducible exact bp_n bp_d | with_reducible exact bp_n bp_e | with_reducible exact bp_n bp_b | exact bp_b)
    (ht : p → hSK P c n ops news ({ o with guard := none } :: rest) ((d, .t (.bool true)) :: env) σ k)
    (hf : ¬ p → hSK P c n ops news rest e2 σ k) : hSK P c n ops news (o :: rest) env σ k := s_gT hg hj hd hl hp (fun h => ht (hb.1 h)) (fun h => hf (hb.no h))
theorem s_gFP {news : List Nat} {j d : Nat} {b : Bool} {p : Prop} {oj : Oper} {e2 : Env} (hg : o.guard = some (j, false)) (hj : ops[j]? = some oj) (hd : oj.dst = some d) (hl : look env d = some (.t (.bool b))) (hp : putV n o.dst (.t .undef) ((d, .t (.bool true)) :: env) = some e2) (hb : BP b p := by first | with_reducible exact bp_t | with_reducible exact bp_f | with_reducible exact bp_d | with_reducible exact bp_e | with_reducible exact bp_ne | with_reducible exact bp_n bp_t | with_reducible exact bp_n bp_f | with_reducible exact bp_n bp_d | with_reducible exact bp_n bp_e | with_reducible exact bp_n bp_b | exact bp_b)
    (ht : ¬ p → hSK P c n ops news ({ o with guard := none } :: rest) ((d, .t (.bool false)) :: env) σ k)
    (hf : p → hSK P c n ops news rest e2 σ k) : hSK P c n ops news (o :: rest) env σ k := s_gF hg hj hd hl hp (fun h => ht (hb.no h)) (fun h => hf (hb.1 h))
theorem s_guardU {news : List Nat} {j d : Nat} {want : Bool} {oj : Oper} {e2 : Env} (hg : o.guard = some (j, want)) (hj : ops[j]? = some oj) (hd : oj.dst = some d) (hl : look env d = some (.t .undef)) (hp : putV n o.dst (.t .undef) env = some e2)
    (h : hSK P c n ops news rest e2 σ k) : hSK P c n ops news (o :: rest) env σ k := by
  simp only [hSK, wantedH, hg, hj, hd, hl]
  exact ⟨e2, hp, h⟩
theorem s_call {news : List Nat} {cl : Call} {f : Nat} {as : List AV} {e2 : Env} {σ2 : St} {r : AV} (hg : o.guard = none) (ho : o.op = .call cl) (hb : isB cl.callee = false) (hc : calleeV c env cl = some (f, as))
    (hfr : freeL as = true) (hct : Ct P f as [] r σ2) (hr : r.free = true) (hp : putV n o.dst r env = some e2) (h : hSK P c n ops news rest e2 σ k) :
    hSK P c n ops news (o :: rest) env σ k := by
  simp only [hSK, wantedH, hg]
  refine ⟨oneCf f as [] r σ2, r, [], oneCf_ok hct, ?_, e2, hp, h⟩
  unfold stillV
  rw [ho]
  simp only
  split
  · rename_i hq; rw [hq] at hb; simp [isB] at hb
  · rename_i hq; rw [hq] at hb; simp [isB] at hb
  · simp only [hc, hfr, oneCf_at, hr]
end
end Go.Am
/- Hw2 -/
namespace Go.Am
/- labels are renamed -/
mutual
def mapA (f : Nat → Option Nat) : AV → AV
  | .t x => .t x
  | .top => .top
  | .ref c o => match f c with
    | some b => .ref b o
    | none => .top
  | .eref c s k o => match f c with
    | some b => .eref b s k o
    | none => .top
  | .mref c => match f c with
    | some b => .mref b
    | none => .top
  | .row c s lo len => match f c with
    | some b => .row b s lo len
    | none => .top
  | .iface t x => .iface t (mapA f x)
  | .func fn x y => .func fn (mapL f x) (mapL f y)
  | .agg cs => .agg (mapL f cs)
  | .tuple cs => .tuple (mapL f cs)
def mapL (f : Nat → Option Nat) : List AV → List AV
  | [] => []
  | x :: r => mapA f x :: mapL f r
end
def mapE (f : Nat → Option Nat) : Env → Env
  | [] => []
  | (t, x) :: r => (t, mapA f x) :: mapE f r
def mapB (f : Nat → Option Nat) (B : Blk) : Blk := match B with
  | .cells cs => .cells (mapL f cs)
  | .grow sz es => .grow sz es
  | .rights L => .rights L
  | .loop l st pe ps asg bd n env => .loop l st pe ps asg bd n (mapE f env)
  | .mp ks xs => .mp ks (mapL f xs)
theorem mapL_len (f : Nat → Option Nat) : ∀ l, (mapL f l).length = l.length
  | [] => rfl
  | x :: r => by simp [mapL, mapL_len f r]
theorem mapL_get (f : Nat → Option Nat) : ∀ (l : List AV) (i : Nat), (mapL f l)[i]? = (l[i]?).map (mapA f)
  | [], i => by simp [mapL]
  | x :: r, 0 => by simp [mapL]
  | x :: r, i + 1 => by simp [mapL, mapL_get f r i]
theorem mapE_get (f : Nat → Option Nat) : ∀ (l : Env) (t : Nat), look (mapE f l) t = (look l t).map (mapA f)
  | [], t => by simp [mapE, look]
  | (k, x) :: r, t => by
    simp only [mapE]
    rw [look_cons, look_cons, mapE_get f r t]
    split <;> rfl
theorem Rel.ren {w w' : World} {g g' : G} (f : Nat → Option Nat) (hk : Keeps w g.M w' g'.M) (hs : ∀ b p, w.shape? b = some p → w'.shape? b = some p) (hβ : ∀ c b p, f c = some b → g.β c = some p → g'.β b = some p)
    {v : Value} {x : AV} (h : Rel w g v x) : Rel w' g' v (mapA f x) := by
  induction h with
  | t v x h => simp only [mapA]; exact .t _ _ (h.mono hk)
  | top v => simp only [mapA]; exact .top v
  | ref c o blk h =>
    simp only [mapA]
    split
    · rename_i b hb; exact .ref _ _ _ (hβ _ _ _ hb h)
    · exact .top _
  | eref c s k o blk h =>
    simp only [mapA]
    split
    · rename_i b hb; exact .eref _ _ _ _ _ (hβ _ _ _ hb h)
    · exact .top _
  | mref c blk h =>
    simp only [mapA]
    split
    · rename_i b hb; exact .mref _ _ (hβ _ _ _ hb h)
    · exact .top _
  | rowNil c s a ha h =>
    simp only [mapA]
    split
    · rename_i b hb; exact .rowNil _ _ _ ha (hβ _ _ _ hb h)
    · exact .top _
  | row c s lo len blk o cap e0 n h hs' ho hl hn =>
    simp only [mapA]
    split
    · rename_i b hb; exact .row _ _ _ _ blk o cap e0 n (hβ _ _ _ hb h) (hs _ _ hs') ho hl hn
    · exact .top _
  | iface t v x _ ih => simp only [mapA]; exact .iface _ _ _ ih
  | func fn v1 v2 x1 x2 h1 h2 _ _ i1 i2 =>
    simp only [mapA]
    refine .func fn v1 v2 _ _ (by rw [mapL_len]; exact h1) (by rw [mapL_len]; exact h2) (fun i v x hv hx => ?_) (fun i v x hv hx => ?_)
    · rw [mapL_get] at hx
      cases hg : x1[i]? with
      | none => simp [hg] at hx
      | some y => simp [hg] at hx; subst hx; exact i1 i v y hv hg
    · rw [mapL_get] at hx
      cases hg : x2[i]? with
      | none => simp [hg] at hx
      | some y => simp [hg] at hx; subst hx; exact i2 i v y hv hg
  | agg vs xs h _ ih =>
    simp only [mapA]
    refine .agg vs _ (by rw [mapL_len]; exact h) fun i v x hv hx => ?_
    rw [mapL_get] at hx
    cases hg : xs[i]? with
    | none => simp [hg] at hx
    | some y => simp [hg] at hx; subst hx; exact ih i v y hv hg
  | tuple vs xs h _ ih =>
    simp only [mapA]
    refine .tuple vs _ (by rw [mapL_len]; exact h) fun i v x hv hx => ?_
    rw [mapL_get] at hx
    cases hg : xs[i]? with
    | none => simp [hg] at hx
    | some y => simp [hg] at hx; subst hx; exact ih i v y hv hg
theorem RelL.ren {w w' : World} {g g' : G} (f : Nat → Option Nat) (hr : ∀ v x, Rel w g v x → Rel w' g' v (mapA f x)) {vs : List Value} {xs : List AV} (h : RelL w g vs xs) : RelL w' g' vs (mapL f xs) :=
  ⟨by rw [mapL_len]; exact h.1, fun i v x hv hx => by
    rw [mapL_get] at hx
    cases hg : xs[i]? with
    | none => simp [hg] at hx
    | some y => simp [hg] at hx; subst hx; exact hr _ _ (h.2 i v y hv hg)⟩
/- a block, seen from elsewhere -/
theorem BlkOk.ren {w w' : World} {g g' : G} (f : Nat → Option Nat) (hk : Keeps w g.M w' g'.M) (hr : ∀ v x, Rel w g v x → Rel w' g' v (mapA f x)) {b c : Nat} (hβ : ∀ p, g.β b = some p → g'.β c = some p)
    (hown : ∀ blk, g.β b = some (some blk) → g.own blk → g'.own blk ∧ w'.heap[blk]? = w.heap[blk]?) {B : Blk} (h : BlkOk w g b B) : BlkOk w' g' c (mapB f B) := by
  cases B with
  | cells cs =>
    obtain ⟨blk, vs, e, h1, h2, h3, h4, h5⟩ := h
    obtain ⟨k1, k2⟩ := hown blk h1 h2
    refine ⟨blk, vs, e, hβ _ h1, k1, by rw [k2]; exact h3, by rw [mapL_len]; exact h4, fun i v x hv hx => ?_⟩
    rw [mapL_get] at hx
    cases hg : cs[i]? with
    | none => simp [hg] at hx
    | some y => simp [hg] at hx; subst hx; exact hr _ _ (h5 i v y hv hg)
  | grow sz es =>
    obtain ⟨h0, h⟩ := h
    refine ⟨h0, ?_⟩
    rcases h with ⟨h1, h2⟩ | ⟨blk, vs, e, h1, h2, h3, h4, h5⟩
    · exact .inl ⟨hβ _ h1, h2⟩
    · obtain ⟨k1, k2⟩ := hown blk h1 h2
      exact .inr ⟨blk, vs, e, hβ _ h1, k1, by rw [k2]; exact h3, h4, fun i v x hv hx => ⟨(h5 i v x hv hx).1, (h5 i v x hv hx).2.mono hk⟩⟩
  | rights L => exact hβ _ h
  | loop l st pe ps asg bd n env =>
    obtain ⟨r, h1, h2, h3, h4, h5, h6⟩ := h
    obtain ⟨k1, k2⟩ := hown l h1 h2
    refine ⟨r, hβ _ h1, k1, by rw [k2]; exact h3, h4, h5, fun t x ht => ?_⟩
    rw [mapE_get] at ht
    cases hg : look env t with
    | none => simp [hg] at ht
    | some y => simp [hg] at ht; subst ht; exact hr _ _ (h6 t y hg)
  | mp ks ys =>
    obtain ⟨blk, fs, clk, h1, h2, h3, h4, h5, h6, h7⟩ := h
    refine ⟨blk, fs, clk, hβ _ h1, (hown blk h1 h2).1, by rw [(hown blk h1 h2).2]; exact h3, h4, by rw [mapL_len]; exact h5, fun i e x he hx => (h6 i e x he hx).mono hk, fun i e x he hx => ?_⟩
    rw [mapL_get] at hx
    cases hg : ys[i]? with
    | none => simp [hg] at hx
    | some y => simp [hg] at hx; subst hx; exact hr _ _ (h7 i e y he hg)
def pickS (ι : List (Nat × Nat)) (σ : St) : List (Nat × Nat) → St
  | [] => []
  | (b, c) :: r => match look σ b with
    | some B => (c, mapB (look ι) B) :: pickS ι σ r
    | none => pickS ι σ r
def outS (ω : List (Nat × Nat)) : St → St
  | [] => []
  | (c, B) :: r => match look ω c with
    | some b => (b, mapB (look ω) B) :: outS ω r
    | none => outS ω r
/- what stays valid beside a call that was handed the labels ι -/
def keepF (ι : List (Nat × Nat)) (σ : St) (b : Nat) : Option Nat :=
  match look ι b with
  | none => some b
  | some _ => match look σ b with
    | some (.cells _) => some b
    | _ => none
def restS (ι : List (Nat × Nat)) (σ : St) : St → St
  | [] => []
  | (b, B) :: r => match look ι b with
    | none => (b, mapB (keepF ι σ) B) :: restS ι σ r
    | some _ => restS ι σ r
def notIn (n : Nat) : List Nat → Bool
  | [] => true
  | k :: r => !(Nat.beq k n) && notIn n r
def nodupB : List Nat → Bool
  | [] => true
  | k :: r => notIn k r && nodupB r
def optIs (o : Option Nat) (n : Nat) : Bool := match o with
  | some k => Nat.beq k n
  | none => false
def chkI (ω : List (Nat × Nat)) (σ : St) : List (Nat × Nat) → Bool
  | [] => true
  | (b, c) :: r => (optIs (look ω c) b && ((look σ b).isSome && Nat.beq (c % 2) 1)) && chkI ω σ r
def chkO (ι : List (Nat × Nat)) (σ : St) : List (Nat × Nat) → Bool
  | [] => true
  | (c, b) :: r => (optIs (look ι b) c || ((look ι b).isNone && (look σ b).isNone)) && chkO ι σ r
def chkS (ω : List (Nat × Nat)) : St → Bool
  | [] => true
  | (c, _) :: r => (look ω c).isSome && chkS ω r
def keysN : List (Nat × Nat) → List Nat
  | [] => []
  | (k, _) :: r => k :: keysN r
def valsN : List (Nat × Nat) → List Nat
  | [] => []
  | (_, v) :: r => v :: valsN r
def chkR (ι ω : List (Nat × Nat)) (σ σ2 : St) : Bool :=
  (nodupB (keysN ι) && (nodupB (keysN ω) && nodupB (valsN ω))) && (chkI ω σ ι && (chkO ι σ ω && chkS ω σ2))
theorem notIn_mem {n : Nat} : ∀ {l : List Nat}, notIn n l = true → n ∉ l
  | [], _ => by simp
  | k :: r, h => by
    simp only [notIn, Bool.and_eq_true] at h
    intro hm
    rcases List.mem_cons.1 hm with e | e
    · subst e; simp at h
    · exact notIn_mem h.2 e
theorem look_mem {α : Type} : ∀ {l : List (Nat × α)} {k : Nat} {v : α}, look l k = some v → (k, v) ∈ l
  | [], k, v, h => by simp [look] at h
  | (k', v') :: r, k, v, h => by
    rw [look_cons] at h
    split at h
    · rename_i e; subst e; cases h; simp
    · exact List.mem_cons_of_mem _ (look_mem h)
theorem mem_keys : ∀ {l : List (Nat × Nat)} {k v : Nat}, (k, v) ∈ l → k ∈ keysN l
  | (k', v') :: r, k, v, h => by
    rcases List.mem_cons.1 h with e | e
    · cases e; simp [keysN]
    · exact List.mem_cons_of_mem _ (mem_keys e)
theorem mem_vals : ∀ {l : List (Nat × Nat)} {k v : Nat}, (k, v) ∈ l → v ∈ valsN l
  | (k', v') :: r, k, v, h => by
    rcases List.mem_cons.1 h with e | e
    · cases e; simp [valsN]
    · exact List.mem_cons_of_mem _ (mem_vals e)
theorem vals_inj : ∀ {l : List (Nat × Nat)} {k k' v : Nat}, nodupB (valsN l) = true → (k, v) ∈ l → (k', v) ∈ l → nodupB (keysN l) = true → k = k'
  | (a, b) :: r, k, k', v, hn, h1, h2, hk => by
    simp only [valsN, nodupB, Bool.and_eq_true] at hn
    simp only [keysN, nodupB, Bool.and_eq_true] at hk
    rcases List.mem_cons.1 h1 with e1 | e1 <;> rcases List.mem_cons.1 h2 with e2 | e2
    · cases e1; cases e2; rfl
    · cases e1; exact absurd (mem_vals e2) (notIn_mem hn.1)
    · cases e2; exact absurd (mem_vals e1) (notIn_mem hn.1)
    · exact vals_inj hn.2 e1 e2 hk.2
theorem optIs_eq {o : Option Nat} {n : Nat} (h : optIs o n = true) : o = some n := by
  cases o with
  | none => simp [optIs] at h
  | some k => simp only [optIs] at h; rw [Nat.eq_of_beq_eq_true h]
theorem chkI_mem {ω : List (Nat × Nat)} {σ : St} : ∀ {l : List (Nat × Nat)}, chkI ω σ l = true → ∀ b c, (b, c) ∈ l → look ω c = some b ∧ (look σ b).isSome = true ∧ c % 2 = 1
  | (b', c') :: r, h, b, c, hm => by
    simp only [chkI, Bool.and_eq_true] at h
    rcases List.mem_cons.1 hm with e | e
    · cases e; exact ⟨optIs_eq h.1.1, h.1.2.1, Nat.eq_of_beq_eq_true h.1.2.2⟩
    · exact chkI_mem h.2 b c e
theorem chkO_mem {ι : List (Nat × Nat)} {σ : St} : ∀ {l : List (Nat × Nat)}, chkO ι σ l = true → ∀ c b, (c, b) ∈ l → look ι b = some c ∨ (look ι b = none ∧ look σ b = none)
  | (c', b') :: r, h, c, b, hm => by
    simp only [chkO, Bool.and_eq_true, Bool.or_eq_true] at h
    rcases List.mem_cons.1 hm with e | e
    · cases e
      rcases h.1 with h' | h'
      · exact .inl (optIs_eq h')
      · exact .inr ⟨by simpa using h'.1, by simpa using h'.2⟩
    · exact chkO_mem h.2 c b e
theorem chkS_mem {ω : List (Nat × Nat)} : ∀ {l : St}, chkS ω l = true → ∀ c B, look l c = some B → (look ω c).isSome = true
  | [], _, c, B, h => by simp [look] at h
  | (c', B') :: r, hc, c, B, h => by
    simp only [chkS, Bool.and_eq_true] at hc
    rw [look_cons] at h
    split at h
    · rename_i e; subst e; exact hc.1
    · exact chkS_mem hc.2 c B h
structure RenOk (ι ω : List (Nat × Nat)) (σ σ2 : St) : Prop where
  io : ∀ b c, look ι b = some c → look ω c = some b ∧ (look σ b).isSome = true ∧ c % 2 = 1
  oi : ∀ c b, look ω c = some b → look ι b = some c ∨ (look ι b = none ∧ look σ b = none)
  inj : ∀ c c' b, look ω c = some b → look ω c' = some b → c = c'
  dom : ∀ c B, look σ2 c = some B → (look ω c).isSome = true
  mem : ∀ b c, (b, c) ∈ ι → look ι b = some c
theorem mem_look : ∀ {l : List (Nat × Nat)}, nodupB (keysN l) = true → ∀ b c, (b, c) ∈ l → look l b = some c
  | (b', c') :: r, hn, b, c, h => by
    simp only [keysN, nodupB, Bool.and_eq_true] at hn
    rw [look_cons]
    rcases List.mem_cons.1 h with e | e
    · cases e; simp
    · have : ¬ b' = b := fun e2 => by subst e2; exact notIn_mem hn.1 (mem_keys e)
      simp only [this, if_false]; exact mem_look hn.2 b c e
theorem chkR_ok {ι ω : List (Nat × Nat)} {σ σ2 : St} (h : chkR ι ω σ σ2 = true) : RenOk ι ω σ σ2 := by
  simp only [chkR, Bool.and_eq_true] at h
  obtain ⟨⟨h1, h2, h3⟩, h4, h5, h6⟩ := h
  exact ⟨fun b c hb => chkI_mem h4 b c (look_mem hb), fun c b hc => chkO_mem h5 c b (look_mem hc), fun c c' b h7 h8 => vals_inj h3 (look_mem h7) (look_mem h8) h2, chkS_mem h6, mem_look h1⟩
theorem look_pickS {ι : List (Nat × Nat)} {σ : St} {c : Nat} {B : Blk} : ∀ {l : List (Nat × Nat)}, look (pickS ι σ l) c = some B → ∃ b B0, (b, c) ∈ l ∧ look σ b = some B0 ∧ B = mapB (look ι) B0
  | [], h => by simp [pickS, look] at h
  | (b', c') :: r, h => by
    simp only [pickS] at h
    split at h
    · rename_i B0 hB
      rw [look_cons] at h
      split at h
      · rename_i e; subst e; cases h; exact ⟨b', B0, by simp, hB, rfl⟩
      · obtain ⟨b, B1, h1, h2⟩ := look_pickS h; exact ⟨b, B1, by simp [h1], h2⟩
    · obtain ⟨b, B1, h1, h2⟩ := look_pickS h; exact ⟨b, B1, by simp [h1], h2⟩
theorem pickS_some {ι : List (Nat × Nat)} {σ : St} {b c : Nat} (hs : (look σ b).isSome = true) : ∀ {l : List (Nat × Nat)}, (b, c) ∈ l → (look (pickS ι σ l) c).isSome = true
  | (b', c') :: r, h => by
    simp only [pickS]
    rcases List.mem_cons.1 h with e | e
    · cases e
      obtain ⟨B, hB⟩ := Option.isSome_iff_exists.1 hs
      rw [hB]; simp [look_cons]
    · have ih := pickS_some hs e (ι := ι)
      split
      · rw [look_cons]; split
        · rfl
        · exact ih
      · exact ih
theorem look_outS {ω : List (Nat × Nat)} (hinj : ∀ c c' b, look ω c = some b → look ω c' = some b → c = c') {b : Nat} : ∀ {s : St}, (∀ c, look ω c = some b → look (outS ω s) b = (look s c).map (mapB (look ω))) ∧ ((∀ c, look ω c ≠ some b) → look (outS ω s) b = none)
  | [] => ⟨fun c hc => by simp [outS, look], fun _ => by simp [outS, look]⟩
  | (c', B) :: r => by
    obtain ⟨ih1, ih2⟩ := look_outS hinj (b := b) (s := r)
    constructor
    · intro c hc
      simp only [outS]
      split
      · rename_i b' hb'
        rw [look_cons, look_cons]
        by_cases e : b' = b
        · subst e
          have : c' = c := hinj _ _ _ hb' hc
          subst this; simp
        · have : ¬ c' = c := fun e2 => e (by subst e2; rw [hc] at hb'; cases hb'; rfl)
          simp only [e, this, if_false]; exact ih1 c hc
      · rename_i hb'
        have : ¬ c' = c := fun e2 => by subst e2; rw [hc] at hb'; cases hb'
        rw [look_cons]; simp only [this, if_false]; exact ih1 c hc
    · intro hn
      simp only [outS]
      split
      · rename_i b' hb'
        rw [look_cons]
        have : ¬ b' = b := fun e => hn c' (by rw [hb', e])
        simp only [this, if_false]; exact ih2 hn
      · exact ih2 hn
theorem look_restS {ι : List (Nat × Nat)} {σ : St} {b : Nat} : ∀ {s : St}, look (restS ι σ s) b = if look ι b = none then (look s b).map (mapB (keepF ι σ)) else none
  | [] => by simp [restS, look]
  | (b', B) :: r => by
    have ih := look_restS (ι := ι) (σ := σ) (b := b) (s := r)
    simp only [restS]
    split
    · rename_i hb'
      rw [look_cons, look_cons]
      by_cases e : b' = b
      · subst e; simp [hb']
      · simp only [e, if_false]; exact ih
    · rename_i c hb'
      rw [look_cons]
      by_cases e : b' = b
      · subst e; rw [ih]; simp [hb']
      · simp only [e, if_false]; exact ih
end Go.Am
/- Hw3 -/
namespace Go.Am
section
variable {w w' : World} {g g1 : G} {σ σ2 : St} {ι ω : List (Nat × Nat)}
def G.sub (g : G) (ι ω : List (Nat × Nat)) (σ0 : St) : G where
  β := fun c => match look ω c with
    | some b => if look ι b = some c then g.β b else none
    | none => none
  own := fun blk => (∃ b c, look ι b = some c ∧ g.β b = some (some blk)) ∨ ∃ c L e, look σ0 c = some (.rights L) ∧ (blk, e) ∈ L
  oth := fun blk o => g.M blk o ∧ ¬ ((∃ b c, look ι b = some c ∧ g.β b = some (some blk)) ∨ ∃ c L e, look σ0 c = some (.rights L) ∧ (blk, e) ∈ L)
  sp := g.sp
  bx := fun c => c % 2 = 1 ∧ ∃ cs, look σ0 c = some (.cells cs)
open Classical in
noncomputable def G.back (g g0 g1 : G) (ω : List (Nat × Nat)) : G where
  β := fun b => if h : ∃ c, look ω c = some b then g1.β h.choose else g.β b
  own := fun blk => g1.own blk ∨ (g.own blk ∧ ¬ g0.own blk)
  oth := g.oth
  sp := fun blk => if g1.own blk then g1.sp blk else g.sp blk
  bx := g.bx
  lo := g.lo
theorem lab_own (hi : Inv w g σ) {b blk : Nat} (h : g.β b = some (some blk)) : g.own blk := by
  have hd := hi.dom b
  rw [h] at hd
  obtain ⟨B, hB⟩ := Option.isSome_iff_exists.1 (by simpa using hd)
  have hok := hi.ok b B hB
  cases B with
  | cells cs => obtain ⟨blk', vs, e, h1, h2, _⟩ := hok; rw [h] at h1; cases h1; exact h2
  | grow sz es =>
    obtain ⟨_, hh⟩ := hok
    rcases hh with ⟨h1, _⟩ | ⟨blk', vs, e, h1, h2, _⟩
    · rw [h] at h1; cases h1
    · rw [h] at h1; cases h1; exact h2
  | rights L => have h1 : g.β b = some none := hok; rw [h1] at h; cases h
  | loop l st pe ps asg bd n env => obtain ⟨r, h1, h2, _⟩ := hok; rw [h] at h1; cases h1; exact h2
  | mp ks xs => obtain ⟨blk', es, clk, h1, h2, _⟩ := hok; rw [h] at h1; cases h1; exact h2
theorem sub_β (hR : RenOk ι ω σ σ2) {σ0 : St} {b c : Nat} {p : Option Nat} (h1 : look ι b = some c) (h2 : g.β b = some p) : (g.sub ι ω σ0).β c = some p := by
  simp only [G.sub, (hR.io b c h1).1, h1, if_true, h2]
/- what is handed over as rights -/
theorem pick_rights (hR : RenOk ι ω σ σ2) {c : Nat} {L : List (Nat × Nat × Nat)} (h : look (pickS ι σ ι) c = some (.rights L)) : ∃ b, look ι b = some c ∧ look σ b = some (.rights L) := by
  obtain ⟨b, B0, h1, h2, h3⟩ := look_pickS h
  refine ⟨b, hR.mem _ _ h1, ?_⟩
  rw [h2]
  cases B0 <;> simp [mapB] at h3
  rw [h3]
theorem sub_own (hi : Inv w g σ) (hR : RenOk ι ω σ σ2) {blk : Nat} (h : (g.sub ι ω (pickS ι σ ι)).own blk) : g.own blk := by
  rcases h with ⟨b, c, _, h2⟩ | ⟨c, L, e, h1, h2⟩
  · exact lab_own hi h2
  · obtain ⟨b, _, h3⟩ := pick_rights hR h1
    exact ((hi.sx.ok b L h3).2 _ h2).1
theorem sub_M (hi : Inv w g σ) (hR : RenOk ι ω σ σ2) (blk o : Nat) : (g.sub ι ω (pickS ι σ ι)).M blk o ↔ g.M blk o := by
  constructor
  · rintro (h | h)
    · exact .inl ⟨sub_own hi hR h.1, h.2⟩
    · exact h.1
  · intro h
    by_cases ho : (g.sub ι ω (pickS ι σ ι)).own blk
    · rcases h with h | h
      · exact .inl ⟨ho, h.2⟩
      · exact absurd h (hi.dis _ _ (sub_own hi hR ho))
    · exact .inr ⟨h, ho⟩
theorem look_pick (hR : RenOk ι ω σ σ2) {b c : Nat} {B : Blk} (h1 : look ι b = some c) (h2 : look σ b = some B) : look (pickS ι σ ι) c = some (mapB (look ι) B) := by
  obtain ⟨B1, hB1⟩ := Option.isSome_iff_exists.1 (pickS_some (ι := ι) (by rw [h2]; rfl) (look_mem h1))
  obtain ⟨b', B0, k1, k2, k3⟩ := look_pickS hB1
  have h3 := (hR.io b c h1).1
  have h4 := (hR.io b' c (hR.mem _ _ k1)).1
  rw [h3] at h4; cases h4
  rw [h2] at k2; cases k2
  rw [hB1, k3]
theorem sub_inv (hi : Inv w g σ) (hR : RenOk ι ω σ σ2) : Inv w (g.sub ι ω (pickS ι σ ι)) (pickS ι σ ι) ∧ ∀ v x, Rel w g v x → Rel w (g.sub ι ω (pickS ι σ ι)) v (mapA (look ι) x) := by
  have hk : Keeps w g.M w (g.sub ι ω (pickS ι σ ι)).M := fun b o v h1 h2 => ⟨fun h => h1 ((sub_M hi hR b o).1 h), h2⟩
  have hr : ∀ v x, Rel w g v x → Rel w (g.sub ι ω (pickS ι σ ι)) v (mapA (look ι) x) := fun v x h => h.ren (look ι) hk (fun _ _ h => h) (fun c b p h1 h2 => sub_β hR h1 h2)
  refine ⟨⟨fun c B hB => ?_, fun c => ?_, fun c c' blk h1 h2 => ?_, fun blk h => (by
      rcases h with h | ⟨o, h⟩
      · exact hi.lt blk (.inl (sub_own hi hR h))
      · rcases h.1 with h | h
        · exact hi.lt blk (.inl h.1)
        · exact hi.lt blk (.inr ⟨o, h⟩)), fun c h => h, fun blk o h1 h2 => h2.2 h1, hi.im_of hk, Nat.zero_le _, ⟨hi.sx.lt, fun c blk h => ?_, fun c c' L L' blk e e' h1 h2 h3 h4 => ?_, fun c L hL => ?_⟩⟩, hr⟩
  · obtain ⟨b, B0, h1, h2, rfl⟩ := look_pickS hB
    have h1 := hR.mem _ _ h1
    exact BlkOk.ren (look ι) hk hr (fun p hp => sub_β hR h1 hp) (fun blk hb ho => ⟨.inl ⟨b, c, h1, hb⟩, rfl⟩) (hi.ok b B0 h2)
  · simp only [G.sub]
    cases ho : look ω c with
    | none =>
      cases hl : look (pickS ι σ ι) c with
      | none => simp
      | some B =>
        obtain ⟨b, B0, h1, _⟩ := look_pickS hl
        rw [(hR.io b c (hR.mem _ _ h1)).1] at ho; cases ho
    | some b =>
      by_cases hb : look ι b = some c
      · simp only [hb, if_true]
        obtain ⟨_, h2, _⟩ := hR.io b c hb
        rw [pickS_some h2 (look_mem hb), ← hi.dom b, h2]
      · simp only [hb, if_false]
        cases hl : look (pickS ι σ ι) c with
        | none => simp
        | some B =>
          obtain ⟨b', B0, h1, _⟩ := look_pickS hl
          have h1 := hR.mem _ _ h1
          have := (hR.io b' c h1).1
          rw [ho] at this; cases this; exact absurd h1 hb
  · simp only [G.sub] at h1 h2
    split at h1
    · rename_i b hb
      split at h1
      · rename_i e1
        split at h2
        · rename_i b' hb'
          split at h2
          · rename_i e2
            have := hi.inj _ _ _ h1 h2; subst this
            rw [e1] at e2; cases e2; rfl
          · cases h2
        · cases h2
      · cases h1
    · cases h1
  · simp only [G.sub] at h
    split at h
    · split at h
      · exact hi.sx.bs _ _ h
      · cases h
    · cases h
  · obtain ⟨b, k1, k2⟩ := pick_rights hR h1
    obtain ⟨b', k3, k4⟩ := pick_rights hR h2
    have := hi.sx.one _ _ _ _ _ _ _ k2 k4 h3 h4; subst this
    rw [k1] at k3; cases k3; rfl
  · obtain ⟨b, k1, k2⟩ := pick_rights hR hL
    obtain ⟨q1, q2⟩ := hi.sx.ok b L k2
    exact ⟨q1, fun p hp => ⟨.inr ⟨c, L, p.2, hL, hp⟩, (q2 p hp).2⟩⟩
theorem back_in {g0 : G} (hR : RenOk ι ω σ σ2) {b c : Nat} (h : look ω c = some b) : (g.back g0 g1 ω).β b = g1.β c := by
  have hex : ∃ c, look ω c = some b := ⟨c, h⟩
  simp only [G.back, hex, dite_true]
  rw [hR.inj _ _ _ hex.choose_spec h]
theorem back_out {g0 : G} {b : Nat} (h : ∀ c, look ω c ≠ some b) : (g.back g0 g1 ω).β b = g.β b := by
  have hex : ¬ ∃ c, look ω c = some b := fun ⟨c, hc⟩ => h c hc
  simp only [G.back, hex, dite_false]
theorem back_sound (hi : Inv w g σ) (hR : RenOk ι ω σ σ2) (hx : Ext w (g.sub ι ω (pickS ι σ ι)) w' g1) (hi2 : Inv w' g1 σ2) :
    ∃ g', Ext w g w' g' ∧ Inv w' g' (outS ω σ2 ++ restS ι σ σ) ∧ (∀ v x, Rel w' g1 v x → Rel w' g' v (mapA (look ω) x)) ∧ (∀ v x, Rel w g v x → Rel w' g' v (mapA (keepF ι σ) x)) := by
  have hnow : ∀ blk, g.own blk → ¬ (g.sub ι ω (pickS ι σ ι)).own blk → ¬ g1.own blk := fun blk h1 h2 h3 => h2 (hx.own blk (hi.lt blk (.inl h1)) h3)
  have hM : ∀ blk o, (g.back (g.sub ι ω (pickS ι σ ι)) g1 ω).M blk o ↔ g1.M blk o := by
    intro blk o
    have ho := hx.oth blk o
    constructor
    · rintro (⟨h | ⟨h1, h2⟩, hs⟩ | h)
      · refine .inl ⟨h, fun e he => hs e ?_⟩
        simp only [G.back, h, if_true]; exact he
      · refine .inr (ho.2 ⟨.inl ⟨h1, fun e he => hs e ?_⟩, h2⟩)
        simp only [G.back, hnow blk h1 h2, if_false]; exact he
      · exact .inr (ho.2 ⟨.inr h, fun hc => hi.dis _ _ (sub_own hi hR hc) h⟩)
    · rintro (⟨h, hs⟩ | h)
      · refine .inl ⟨.inl h, fun e he => hs e ?_⟩
        simp only [G.back, h, if_true] at he; exact he
      · obtain ⟨h1, h2⟩ := ho.1 h
        rcases h1 with ⟨h1, hs⟩ | h1
        · refine .inl ⟨.inr ⟨h1, h2⟩, fun e he => hs e ?_⟩
          simp only [G.back, hnow blk h1 h2, if_false] at he; exact he
        · exact .inr h1
  have hstab : ∀ b c cs, look ι b = some c → look σ b = some (.cells cs) → g1.bx c ∧ g1.β c = g.β b := by
    intro b c cs h1 h2
    obtain ⟨k1, _, k3⟩ := hR.io b c h1
    obtain ⟨q1, q2⟩ := hx.bx c ⟨k3, _, look_pick hR h1 h2⟩
    refine ⟨q1, ?_⟩
    rw [q2]; simp only [G.sub, k1, h1, if_true]
  have hext : Ext w g w' (g.back (g.sub ι ω (pickS ι σ ι)) g1 ω) := by
    refine ⟨hx.size, fun blk hb ho => hx.keep blk hb (fun hc => ho (sub_own hi hR hc)), fun blk hb ho => ?_, fun _ _ => Iff.rfl, hx.shape, fun b hb => ⟨hb, ?_⟩, ⟨rfl, hx.lo.2⟩, fun blk e hb ho he => ?_⟩
    · rcases ho with ho | ho
      · exact sub_own hi hR (hx.own blk hb ho)
      · exact ho.1
    · obtain ⟨_, cs, h2⟩ := hi.bx b hb
      by_cases hex : ∃ c, look ω c = some b
      · obtain ⟨c, hc⟩ := hex
        rw [back_in hR hc]
        rcases hR.oi c b hc with h | ⟨_, h⟩
        · exact (hstab b c cs h h2).2
        · rw [h2] at h; cases h
      · exact back_out fun c hc => hex ⟨c, hc⟩
    · by_cases h0 : (g.sub ι ω (pickS ι σ ι)).own blk
      · obtain ⟨a1, a2⟩ := hx.sp blk e hb h0 he
        refine ⟨a1, fun h => ?_⟩
        rcases h with h | h
        · obtain ⟨e', k1, k2⟩ := a2 h
          exact ⟨e', by simp only [G.back, h, if_true]; exact k1, k2⟩
        · exact absurd h0 h.2
      · refine ⟨fun o _ => cell_of_heap (hx.keep blk hb h0) o none, fun _ => ⟨e, ?_, Nat.le_refl _⟩⟩
        simp only [G.back, hnow blk ho h0, if_false]; exact he
  have hkin : Keeps w' g1.M w' (g.back (g.sub ι ω (pickS ι σ ι)) g1 ω).M := fun b o v h1 h2 => ⟨fun h => h1 ((hM b o).1 h), h2⟩
  have hrin : ∀ v x, Rel w' g1 v x → Rel w' (g.back (g.sub ι ω (pickS ι σ ι)) g1 ω) v (mapA (look ω) x) := fun v x h =>
    h.ren (look ω) hkin (fun _ _ h => h) (fun c b p h1 h2 => by rw [back_in hR h1]; exact h2)
  have hrout : ∀ v x, Rel w g v x → Rel w' (g.back (g.sub ι ω (pickS ι σ ι)) g1 ω) v (mapA (keepF ι σ) x) := fun v x h =>
    h.ren (keepF ι σ) hext.keeps hx.shape (fun b1 b2 p h1 h2 => by
      unfold keepF at h1
      split at h1
      · rename_i hn
        cases h1
        rw [back_out]
        · exact h2
        · intro c hc
          rcases hR.oi c b1 hc with h | ⟨_, h⟩
          · rw [hn] at h; cases h
          · have := hi.dom b1; rw [h, h2] at this; cases this
      · rename_i c hc
        split at h1
        · rename_i cs hcs
          cases h1
          rw [back_in hR (hR.io b1 c hc).1, (hstab b1 c cs hc hcs).2]; exact h2
        · cases h1)
  refine ⟨_, hext, ⟨fun b B hB => ?_, fun b => ?_, fun b b' blk h1 h2 => ?_, fun blk h => ?_, fun b hb => ?_, fun blk o h1 h2 => ?_, hi.im_of hext.keeps, (Nat.le_trans hi.lo hext.size), ?_⟩, hrin, hrout⟩
  · rw [look_append] at hB
    by_cases hex : ∃ c, look ω c = some b
    · obtain ⟨c, hc⟩ := hex
      rw [(look_outS hR.inj).1 c hc, look_restS] at hB
      have hno : (if look ι b = none then (look σ b).map (mapB (keepF ι σ)) else none) = none := by
        rcases hR.oi c b hc with h | ⟨h1, h2⟩
        · simp [h]
        · simp [h1, h2]
      rw [hno, Option.or_none] at hB
      cases hl : look σ2 c with
      | none => simp [hl] at hB
      | some B2 =>
        simp [hl] at hB; subst hB
        exact BlkOk.ren (look ω) hkin hrin (fun p hp => by rw [back_in hR hc]; exact hp) (fun blk _ ho => ⟨.inl ho, rfl⟩) (hi2.ok c B2 hl)
    · have hn : ∀ c, look ω c ≠ some b := fun c hc => hex ⟨c, hc⟩
      rw [(look_outS hR.inj).2 hn, look_restS, Option.none_or] at hB
      split at hB
      · rename_i hnι
        cases hl : look σ b with
        | none => simp [hl] at hB
        | some B0 =>
          simp [hl] at hB; subst hB
          refine BlkOk.ren (keepF ι σ) hext.keeps hrout (fun p hp => by rw [back_out hn]; exact hp) (fun blk hb ho => ?_) (hi.ok b B0 hl)
          have hno : ¬ (g.sub ι ω (pickS ι σ ι)).own blk := by
            rintro (⟨b2, c2, q1, q2⟩ | ⟨c2, L, e, q1, q2⟩)
            · have := hi.inj _ _ _ hb q2; subst this
              rw [hnι] at q1; cases q1
            · obtain ⟨b2, _, k2⟩ := pick_rights hR q1
              have h1 := ((hi.sx.ok b2 L k2).2 _ q2).2.1
              rw [hi.sx.bs _ _ hb] at h1; cases h1
          exact ⟨.inr ⟨ho, hno⟩, hx.keep blk (hi.lt blk (.inl ho)) hno⟩
      · cases hB
  · rw [look_append]
    by_cases hex : ∃ c, look ω c = some b
    · obtain ⟨c, hc⟩ := hex
      rw [(look_outS hR.inj).1 c hc, look_restS, back_in hR hc, ← hi2.dom c]
      have hno : (if look ι b = none then (look σ b).map (mapB (keepF ι σ)) else none) = none := by
        rcases hR.oi c b hc with h | ⟨h1, h2⟩
        · simp [h]
        · simp [h1, h2]
      rw [hno]; cases look σ2 c <;> rfl
    · have hn : ∀ c, look ω c ≠ some b := fun c hc => hex ⟨c, hc⟩
      rw [(look_outS hR.inj).2 hn, look_restS, back_out hn, ← hi.dom b]
      have : look ι b = none := by
        cases hl : look ι b with
        | none => rfl
        | some c => exact absurd (hR.io b c hl).1 (hn c)
      simp only [this, if_true]; cases look σ b <;> rfl
  · have mixed : ∀ b b' c, look ω c = some b → (∀ c, look ω c ≠ some b') → g1.β c = some (some blk) → g.β b' = some (some blk) → False := by
      intro b b' c q1 q2 q3 q4
      have ho := lab_own hi q4
      rcases hx.own blk (hi.lt blk (.inl ho)) (lab_own hi2 q3) with ⟨b2, c2, k1, k2⟩ | ⟨c2, L, e, k1, k2⟩
      · have := hi.inj _ _ _ q4 k2; subst this
        exact q2 c2 (hR.io _ _ k1).1
      · obtain ⟨b2, _, k3⟩ := pick_rights hR k1
        have h1 := ((hi.sx.ok b2 L k3).2 _ k2).2.1
        rw [hi.sx.bs _ _ q4] at h1; cases h1
    by_cases hb : ∃ c, look ω c = some b <;> by_cases hb' : ∃ c, look ω c = some b'
    · obtain ⟨c, hc⟩ := hb; obtain ⟨c', hc'⟩ := hb'
      rw [back_in hR hc] at h1; rw [back_in hR hc'] at h2
      have := hi2.inj _ _ _ h1 h2; subst this
      rw [hc] at hc'; cases hc'; rfl
    · obtain ⟨c, hc⟩ := hb
      rw [back_in hR hc] at h1; rw [back_out fun c hc => hb' ⟨c, hc⟩] at h2
      exact (mixed b b' c hc (fun c hc => hb' ⟨c, hc⟩) h1 h2).elim
    · obtain ⟨c, hc⟩ := hb'
      rw [back_in hR hc] at h2; rw [back_out fun c hc => hb ⟨c, hc⟩] at h1
      exact (mixed b' b c hc (fun c hc => hb ⟨c, hc⟩) h2 h1).elim
    · rw [back_out fun c hc => hb ⟨c, hc⟩] at h1; rw [back_out fun c hc => hb' ⟨c, hc⟩] at h2
      exact hi.inj _ _ _ h1 h2
  · rcases h with (h | h) | ⟨o, h⟩
    · exact hi2.lt blk (.inl h)
    · exact Nat.lt_of_lt_of_le (hi.lt blk (.inl h.1)) hext.size
    · exact Nat.lt_of_lt_of_le (hi.lt blk (.inr ⟨o, h⟩)) hext.size
  · obtain ⟨h1, cs, h2⟩ := hi.bx b hb
    refine ⟨h1, ?_⟩
    rw [look_append]
    by_cases hex : ∃ c, look ω c = some b
    · obtain ⟨c, hc⟩ := hex
      rcases hR.oi c b hc with h | ⟨_, h⟩
      · obtain ⟨_, cs2, q⟩ := hi2.bx c (hstab b c cs h h2).1
        rw [(look_outS hR.inj).1 c hc, q]
        exact ⟨_, rfl⟩
      · rw [h2] at h; cases h
    · have hn : ∀ c, look ω c ≠ some b := fun c hc => hex ⟨c, hc⟩
      have : look ι b = none := by
        cases hl : look ι b with
        | none => rfl
        | some c => exact absurd (hR.io b c hl).1 (hn c)
      rw [(look_outS hR.inj).2 hn, look_restS, h2]
      simp only [this, if_true]
      exact ⟨_, rfl⟩
  · rcases h1 with h1 | h1
    · refine hi2.dis blk o h1 ((hx.oth blk o).2 ⟨.inr h2, fun hc => hi.dis _ _ (sub_own hi hR hc) h2⟩)
    · exact hi.dis blk o h1.1 h2
  · have old : ∀ b L, (∀ c, look ω c ≠ some b) → look σ b = some (.rights L) → ∀ p ∈ L, ¬ (g.sub ι ω (pickS ι σ ι)).own p.1 := by
      rintro b L hn hL p hp (⟨b2, c2, k1, k2⟩ | ⟨c2, L2, e, k1, k2⟩)
      · have h1 := ((hi.sx.ok b L hL).2 _ hp).2.1
        rw [hi.sx.bs _ _ k2] at h1; cases h1
      · obtain ⟨b2, k3, k4⟩ := pick_rights hR k1
        have := hi.sx.one _ _ _ _ _ _ _ hL k4 (show (p.1, p.2) ∈ L from hp) k2
        subst this
        exact hn c2 (hR.io _ _ k3).1
    have cases2 : ∀ b L, look (outS ω σ2 ++ restS ι σ σ) b = some (.rights L) → (∃ c, look ω c = some b ∧ look σ2 c = some (.rights L)) ∨ ((∀ c, look ω c ≠ some b) ∧ look σ b = some (.rights L)) := by
      intro b L hL
      rw [look_append] at hL
      by_cases hex : ∃ c, look ω c = some b
      · obtain ⟨c, hc⟩ := hex
        refine .inl ⟨c, hc, ?_⟩
        rw [(look_outS hR.inj).1 c hc, look_restS] at hL
        have hno : (if look ι b = none then (look σ b).map (mapB (keepF ι σ)) else none) = none := by
          rcases hR.oi c b hc with h | ⟨h1, h2⟩
          · simp [h]
          · simp [h1, h2]
        rw [hno, Option.or_none] at hL
        cases hl : look σ2 c with
        | none => simp [hl] at hL
        | some B2 =>
          simp [hl] at hL
          cases B2 <;> simp [mapB] at hL
          rw [hL]
      · have hn : ∀ c, look ω c ≠ some b := fun c hc => hex ⟨c, hc⟩
        refine .inr ⟨hn, ?_⟩
        rw [(look_outS hR.inj).2 hn, look_restS, Option.none_or] at hL
        split at hL
        · cases hl : look σ b with
          | none => simp [hl] at hL
          | some B0 =>
            simp [hl] at hL
            cases B0 <;> simp [mapB] at hL
            rw [hL]
        · cases hL
    refine ⟨fun blk e h => ?_, fun b blk h => ?_, fun b b' L L' blk e e' h1 h2 h3 h4 => ?_, fun b L hL => ?_⟩
    · simp only [G.back] at h
      split at h
      · exact hi2.sx.lt blk e h
      · exact Nat.lt_of_lt_of_le (hi.sx.lt blk e h) hext.size
    · by_cases hex : ∃ c, look ω c = some b
      · obtain ⟨c, hc⟩ := hex
        rw [back_in hR hc] at h
        simp only [G.back, lab_own hi2 h, if_true]
        exact hi2.sx.bs c blk h
      · have hn : ∀ c, look ω c ≠ some b := fun c hc => hex ⟨c, hc⟩
        rw [back_out hn] at h
        have hno : ¬ g1.own blk := by
          intro h3
          rcases hx.own blk (hi.lt blk (.inl (lab_own hi h))) h3 with ⟨b2, c2, k1, k2⟩ | ⟨c2, L, e, k1, k2⟩
          · have := hi.inj _ _ _ h k2; subst this
            exact hn c2 (hR.io _ _ k1).1
          · obtain ⟨b2, _, k3⟩ := pick_rights hR k1
            have h1 := ((hi.sx.ok b2 L k3).2 _ k2).2.1
            rw [hi.sx.bs _ _ h] at h1; cases h1
        simp only [G.back, hno, if_false]
        exact hi.sx.bs b blk h
    · have apart : ∀ b b' c L L' e e', look ω c = some b → look σ2 c = some (.rights L) → (∀ c, look ω c ≠ some b') → look σ b' = some (.rights L') → (blk, e) ∈ L → (blk, e') ∈ L' → False := by
        intro b b' c L L' e e' q1 q2 q3 q4 q5 q6
        have h1 := ((hi2.sx.ok c L q2).2 _ q5).1
        have h2 := ((hi.sx.ok b' L' q4).2 _ q6)
        exact hnow blk h2.1 (old b' L' q3 q4 _ q6) h1
      rcases cases2 b L h1 with ⟨c, k1, k2⟩ | ⟨k1, k2⟩ <;> rcases cases2 b' L' h2 with ⟨c', k3, k4⟩ | ⟨k3, k4⟩
      · have := hi2.sx.one _ _ _ _ _ _ _ k2 k4 h3 h4; subst this
        rw [k1] at k3; cases k3; rfl
      · exact (apart b b' c L L' _ _ k1 k2 k3 k4 h3 h4).elim
      · exact (apart b' b c' L' L _ _ k3 k4 k1 k2 h4 h3).elim
      · exact hi.sx.one _ _ _ _ _ _ _ k2 k4 h3 h4
    · rcases cases2 b L hL with ⟨c, k1, k2⟩ | ⟨k1, k2⟩
      · obtain ⟨q1, q2⟩ := hi2.sx.ok c L k2
        refine ⟨q1, fun p hp => ?_⟩
        obtain ⟨r1, r2, r3⟩ := q2 p hp
        exact ⟨.inl r1, by simp only [G.back, r1, if_true]; exact r2, r3⟩
      · obtain ⟨q1, q2⟩ := hi.sx.ok b L k2
        refine ⟨q1, fun p hp => ?_⟩
        obtain ⟨r1, r2, vs, ty, r3, r4⟩ := q2 p hp
        have hno := old b L k1 k2 p hp
        have hn1 := hnow p.1 r1 hno
        exact ⟨.inr ⟨r1, hno⟩, by simp only [G.back, hn1, if_false]; exact r2, vs, ty, by rw [hx.keep p.1 (hi.lt p.1 (.inl r1)) hno]; exact r3, r4⟩
end
section
variable {P : Program} {c : Conf} {n : Nat} {ops : Array Oper} {rest : List Oper} {env : Env} {σ : St} {o : Oper} {k : Env → St → Prop}
/- a call that is handed the labels ι; ω: where its labels go -/
theorem w_callR (hp0 : ProgOk P c) (ι ω : List (Nat × Nat)) {cl : Call} {f : Nat} {as as0 : List AV} {e e2 : Env} {σ0 σ2 s : St} {r x : AV} (hg : o.guard = none) (ho : o.op = .call cl) (hc : calleeV c env cl = some (f, as)) (ha : mapL (look ι) as = as0) (hs0 : pickS ι σ ι = σ0)
    (hct : Ct P f as0 σ0 r σ2) (hR : chkR ι ω σ σ2 = true) (hx : mapA (look ω) r = x) (he : mapE (keepF ι σ) env = e) (hs : outS ω σ2 ++ restS ι σ σ = s) (hp : putV n o.dst x e = some e2) (h : hOps P n ops rest e2 s k) :
    hOps P n ops (o :: rest) env σ k := by
  subst ha; subst hs0; subst hx; subst he; subst hs
  simp only [hOps, wantedH, hg]
  intro w g a hi hee
  obtain ⟨⟨fn, hf, hb⟩, hca⟩ := hct
  obtain ⟨vs, hrun, hrel⟩ := callee_sound hp0 hee hc ho hf hb
  have hR := chkR_ok hR
  obtain ⟨i1, i2⟩ := sub_inv hi hR
  refine Does.enter hrun ((hca vs w _ (hrel.ren (look ι) i2) i1).mono ?_)
  rintro ed w' ⟨v, g1, rfl, q1, q2, q3⟩
  obtain ⟨g', k1, k2, k3, k4⟩ := back_sound hi hR q1 q3
  refine ⟨v, rfl, _, _, _, ⟨g', k1, k3 v r q2, k2, fun t x hx => ?_⟩, e2, hp, h⟩
  rw [mapE_get] at hx
  cases hl : look env t with
  | none => simp [hl] at hx
  | some y => simp [hl] at hx; subst hx; exact k4 _ _ (hee t y hl)
end
end Go.Am
/- Hw4 -/
namespace Go.Am
section
variable {P : Program} {c : Conf} {n : Nat} {ops : Array Oper} {rest : List Oper} {env : Env} {σ : St} {o : Oper} {k : Env → St → Prop}
/- append to nothing: a row of the call's own -/
theorem w_appNil (hp0 : ProgOk P c) {cl : Call} {so xo : Operand} {t e d s0 b0 sz0 sz : Nat} {z0 : List T} {esz ebb : Nat} {ez : List T} {ek : TK} {es0 news : List (List T)} {m : SM} {x : AV} {e1 e2 : Env} {s : St} (hg : o.guard = none) (ho : o.op = .call cl) (hcl : cl.callee = .builtin .append) (ha : cl.args.toList = [so, xo])
    (hty : cl.argTypes.toList = [t, t]) (hd : o.dst = some d) (hs : ev env so = some (.t (.slice .nil sz0 es0))) (hx : ev env xo = some (.t (.slice m sz news))) (ht : look c.te t = some ⟨s0, b0, z0, .slice e⟩) (he : look c.te e = some ⟨esz, ebb, ez, ek⟩) (hsz : esz = sz)
    (hf : freshK (2 * d) env σ (fun env σ => some (AV.row (2 * d) esz 0 news.length, env, (2 * d, Blk.grow esz news) :: σ)) = some (x, e1, s)) (hp : putV n o.dst x e1 = some e2)
    (hlim : news.length * (ebb + 1) ≤ 140737488355328) (h : hOps P n ops rest e2 s k) : hOps P n ops (o :: rest) env σ k := by
  refine w_step hp0 (x := x) (e := e1) (s := s) hg ?_ hp h
  unfold stepV
  rw [ho]
  simp only [hcl, memV, ho, ha, hty, hs, hx, hd, appendV, ht, he, newsV, hsz, if_true, hlim]
  rw [← hsz]; exact hf
/- append to a row of the call's own -/
theorem w_appRow (hp0 : ProgOk P c) {cl : Call} {so xo : Operand} {t e d s0 b0 b len sz : Nat} {z0 : List T} {esz ebb : Nat} {ez : List T} {ek : TK} {es news : List (List T)} {m : SM} {e2 : Env} (hg : o.guard = none) (ho : o.op = .call cl) (hcl : cl.callee = .builtin .append) (ha : cl.args.toList = [so, xo])
    (hty : cl.argTypes.toList = [t, t]) (hd : o.dst = some d) (hs : ev env so = some (.row b sz 0 len)) (hx : ev env xo = some (.t (.slice m sz news))) (ht : look c.te t = some ⟨s0, b0, z0, .slice e⟩) (he : look c.te e = some ⟨esz, ebb, ez, ek⟩) (hsz : esz = sz)
    (hb : look σ b = some (.grow sz es)) (hlen : len = es.length) (hp : putV n o.dst (.row b sz 0 (es ++ news).length) (killE b env) = some e2)
    (hlim : (es ++ news).length * (ebb + 1) ≤ 140737488355328) (h : hOps P n ops rest e2 ((b, .grow sz (es ++ news)) :: killS b σ) k) : hOps P n ops (o :: rest) env σ k := by
  refine w_step hp0 (x := .row b sz 0 (es ++ news).length) (e := killE b env) (s := (b, .grow sz (es ++ news)) :: killS b σ) hg ?_ hp h
  have hlim' : (es.length + news.length) * (ebb + 1) ≤ 140737488355328 := by simpa using hlim
  subst hlen
  unfold stepV
  rw [ho]
  simp only [hcl, memV, ho, ha, hty, hs, hx, hd, appendV, ht, he, newsV, hsz, if_true, hb, Nat.le_refl, hlim', List.take_length, List.length_append]
end
/- contracts may be asked of what is known better -/
def SubL : List AV → List AV → Prop
  | [], [] => True
  | x :: r, y :: s => Sub x y ∧ SubL r s
  | _, _ => False
theorem SubL.len : ∀ {l m : List AV}, SubL l m → l.length = m.length
  | [], [], _ => rfl
  | x :: r, y :: s, h => by simp [SubL.len h.2]
  | [], y :: s, h => h.elim
  | x :: r, [], h => h.elim
theorem SubL.get : ∀ {l m : List AV}, SubL l m → ∀ (i : Nat) y, m[i]? = some y → ∃ x, l[i]? = some x ∧ Sub x y
  | [], [], _, i, y, h => by simp at h
  | x :: r, z :: s, h, 0, y, hy => by simp at hy; subst hy; exact ⟨x, by simp, h.1⟩
  | x :: r, z :: s, h, i + 1, y, hy => by simp at hy; simpa using SubL.get h.2 i y hy
  | [], y :: s, h, _, _, _ => h.elim
  | x :: r, [], h, _, _, _ => h.elim
theorem SubL.refl : ∀ l : List AV, SubL l l
  | [] => trivial
  | x :: r => ⟨Sub.refl x, SubL.refl r⟩
theorem SubL.rel {w : World} {g : G} {vs : List Value} {l m : List AV} (h : SubL l m) (hr : RelL w g vs l) : RelL w g vs m :=
  ⟨by rw [hr.1, h.len], fun i v y hv hy => by obtain ⟨x, h1, h2⟩ := h.get i y hy; exact h2 _ _ _ (hr.2 i v x hv h1)⟩
theorem Ct.args {P : Program} {f : Nat} {as as0 : List AV} {σ σ' : St} {r : AV} (h : Ct P f as0 σ r σ') (hs : SubL as as0) : Ct P f as σ r σ' :=
  ⟨h.1, fun vs w g hr hi => h.2 vs w g (hs.rel hr) hi⟩
def SubB : Blk → Blk → Prop
  | .cells a, .cells b => SubL a b
  | B, C => B = C
theorem subB_cases {B C : Blk} (h : SubB B C) : (∃ a b, B = .cells a ∧ C = .cells b ∧ SubL a b) ∨ B = C := by
  cases B <;> cases C <;> simp only [SubB] at h <;> first | exact .inr h | exact .inl ⟨_, _, rfl, rfl, h⟩
def SubS : St → St → Prop
  | [], [] => True
  | (b, B) :: r, (c, C) :: s => (b = c ∧ SubB B C) ∧ SubS r s
  | _, _ => False
theorem SubS.inv {w : World} {g : G} {σ σ' : St} (h : SubS σ σ') (hi : Inv w g σ) : Inv w g σ' := by
  have key : ∀ {σ σ' : St}, SubS σ σ' → ∀ b, (look σ' b = none ∧ look σ b = none) ∨ ∃ B C, look σ b = some B ∧ look σ' b = some C ∧ SubB B C := by
    intro σ
    induction σ with
    | nil => intro σ' h b; cases σ' with
      | nil => exact .inl ⟨rfl, rfl⟩
      | cons p r => exact h.elim
    | cons p r ih =>
      intro σ' h b
      cases σ' with
      | nil => exact h.elim
      | cons q s =>
        obtain ⟨⟨h1, h2⟩, h3⟩ := h
        obtain ⟨b1, B⟩ := p; obtain ⟨c1, C⟩ := q
        subst h1
        rw [look_cons, look_cons]
        by_cases e : b1 = b
        · simp only [e, if_true]; exact .inr ⟨B, C, rfl, rfl, h2⟩
        · simp only [e, if_false]; exact ih h3 b
  refine ⟨fun b C hC => ?_, fun b => ?_, hi.inj, hi.lt, fun b hb => ⟨(hi.bx b hb).1, ?_⟩, hi.dis, hi.im, hi.lo, hi.sx.mono (Nat.le_refl _) rfl (fun _ _ _ h => h) (fun _ _ _ _ _ => rfl) (fun c blk h => .inl ⟨c, h⟩) (fun b L hL => ?_)⟩
  · rcases key h b with ⟨h1, _⟩ | ⟨B, C', h1, h2, h3⟩
    · rw [h1] at hC; cases hC
    · rw [h2] at hC; cases hC
      have hok := hi.ok b B h1
      rcases subB_cases h3 with ⟨cs, ds, rfl, rfl, h3'⟩ | rfl
      · obtain ⟨blk, vs, e, q1, q2, q3, q4, q5⟩ := hok
        refine ⟨blk, vs, e, q1, q2, q3, by rw [q4, h3'.len], fun i v x hv hx => ?_⟩
        obtain ⟨y, k1, k2⟩ := h3'.get i x hx
        exact k2 _ _ _ (q5 i v y hv k1)
      · exact hok
  · rw [← hi.dom b]
    rcases key h b with ⟨h1, h2⟩ | ⟨B, C', h1, h2, h3⟩
    · rw [h1, h2]
    · rw [h1, h2]; rfl
  · obtain ⟨_, cs, hcs⟩ := hi.bx b hb
    rcases key h b with ⟨h1, h2⟩ | ⟨B, C', h1, h2, h3⟩
    · rw [h2] at hcs; cases hcs
    · rw [h1] at hcs; cases hcs
      rcases subB_cases h3 with ⟨_, ds, _, rfl, _⟩ | rfl
      · exact ⟨ds, h2⟩
      · exact ⟨cs, h2⟩
  · rcases key h b with ⟨h1, h2⟩ | ⟨B, C', h1, h2, h3⟩
    · rw [h1] at hL; cases hL
    · rw [h2] at hL; cases hL
      rcases subB_cases h3 with ⟨_, ds, _, h4, _⟩ | rfl
      · cases h4
      · exact h1
theorem Ct.weak {P : Program} {f : Nat} {as as0 : List AV} {σ σ0 σ' : St} {r : AV} (h : Ct P f as0 σ0 r σ') (hs : SubL as as0) (hσ : SubS σ σ0) : Ct P f as σ r σ' :=
  ⟨h.1, fun vs w g hr hi => h.2 vs w g (hs.rel hr) (hσ.inv hi)⟩
/- a result that is handed over may be taken as a tree -/
theorem Ct.freeze {P : Program} {f : Nat} {as : List AV} {r r' : AV} {σ2 s : St} {e : Env} (h : Ct P f as [] r σ2) (hz : frzIn σ2 [r] [] σ2 = ([r'], e, s)) (hr : r'.free = true) : Ct P f as [] r' [] := by
  refine ⟨h.1, fun vs w g hrl hi => (h.2 vs w g hrl hi).mono ?_⟩
  rintro ed w' ⟨v, g1, rfl, h1, h2, h3⟩
  obtain ⟨g2, k1, k2, k3, _⟩ := frzIn_sound (w := w') σ2 (a := ⟨#[], []⟩) hz h3 (vs := [v]) (RelL.cons h2 RelL.nil) (fun t x hx => by simp [look] at hx)
  have h4 : Rel w' g2 v r' := k3.2 0 v r' rfl rfl
  have hx := h1.trans k1
  have hbx : ∀ b, ¬ g.bx b := fun b hb => by obtain ⟨_, cs, hc⟩ := hi.bx b hb; simp [look] at hc
  refine ⟨v, { β := fun _ => none, own := g2.own, oth := g2.oth, sp := g2.sp, bx := fun _ => False, lo := g.lo }, rfl, ⟨hx.size, hx.keep, hx.own, hx.oth, hx.shape, fun b hb => absurd hb (hbx b), ⟨rfl, hx.lo.2⟩, hx.sp⟩, ?_, ⟨fun b B hB => ?_, fun b => ?_, fun b b' blk hq => ?_, k2.lt, fun b hb => hb.elim, k2.dis, k2.im, Nat.le_trans hi.lo hx.size, .empty k2.sx.lt (fun _ => rfl)⟩⟩
  · exact Rel.free (g := g2) (g' := { β := fun _ => none, own := g2.own, oth := g2.oth, sp := g2.sp, bx := fun _ => False, lo := g.lo }) (fun b o v q1 q2 => ⟨q1, q2⟩) h4 hr
  · simp [look] at hB
  · simp [look]
  · simp at hq
/- whole functions, memory handed in or out -/
def Fin1 (te : TE) (rs : List ResultVar) (r : AV) (σ' : St) (ex : Exit) (e : Env) (s : St) : Prop :=
  (ex = .normal ∨ ex = .ret) ∧ ∃ r0 s1 D r1, retV te true rs e s = some (r0, s1) ∧ dropE D [(0, r0)] = [(0, r1)] ∧ dropS D s1 = σ' ∧ Sub r1 r
theorem ct1 {P : Program} {c : Conf} (hp : ProgOk P c) {f : Nat} {fn : Func} (hf : P.funcs[f]? = some fn) {code : Code} (hb : fn.body = some code) {as : List AV} {r : AV} {σ σ' : St} (hle : Nat.ble as.length fn.ntmps = true)
    (h : Tr P fn.ntmps code (enterE 0 as) σ (Fin1 c.te fn.results.toList r σ')) : Ct P f as σ r σ' := by
  refine ⟨⟨fn, hf, by simp [hb]⟩, ?_⟩
  intro vs w g hrl hi
  refine enter_sound hf hb hle h hrl hi fun ex a' w' g' env' σ1 h1 h2 h3 => ?_
  obtain ⟨hex, r0, s1, D, r1, h4, h5, rfl, h6⟩ := h3
  obtain ⟨v, g2, q1, q2, q3, q4⟩ := ret_sound hp h2 h4
  have hg2 : Good 0 w' g2 ⟨#[v], []⟩ [(0, r0)] s1 := ⟨fun t x hx => by
    rw [look_cons] at hx
    split at hx
    · rename_i e; subst e; cases hx; exact q3
    · simp [look] at hx, q4, Marks.nil, by simp⟩
  obtain ⟨g3, k1, k2⟩ := drop_good D hg2
  rw [h5] at k2
  have hv : Rel w' g3 v r1 := k2.env 0 r1 rfl
  exact ⟨hex, v, q1, v, g3, rfl, (h1.trans q2).trans k1, h6 _ _ _ hv, k2.inv⟩
theorem w_fin1 {te : TE} {rs : List ResultVar} {e : Env} {s s1 σ' : St} {r r0 r1 : AV} (D : List Nat) (h : retV te true rs e s = some (r0, s1)) (h1 : dropE D [(0, r0)] = [(0, r1)]) (h2 : dropS D s1 = σ') (hs : Sub r1 r) : Fin1 te rs r σ' .ret e s := ⟨.inr rfl, r0, s1, D, r1, h, h1, h2, hs⟩
/- what is known better of a slice -/
theorem sub_sliceT {w : World} {M : Nat → Nat → Prop} {v : Value} {m : SM} {sz : Nat} {es : List (List T)} (h : RelT w M v (.slice m sz es)) : RelT w M v (.slice .any sz es) := by
  cases h with
  | sliceNil => exact .sliceNil _ _
  | sliceZ a _ _ _ => exact .sliceZ a _ _ (by simp)
  | slice b off len cap _ _ _ vs hl hc hf hm hp hsz hone hcell hrel => exact .slice b off len cap _ _ _ vs hl hc (fun h => by cases h) (fun h => by cases h) (fun p N h => by cases h) hsz hone hcell hrel
theorem sub_nilT {w : World} {M : Nat → Nat → Prop} {v : Value} {m : SM} {sz sz' : Nat} (h : RelT w M v (.slice m sz [])) : RelT w M v (.slice .any sz' []) := by
  cases h with
  | sliceNil => exact .sliceNil _ _
  | sliceZ a _ _ _ => exact .sliceZ a _ _ (by simp)
  | slice b off len cap _ _ _ vs hl hc hf hm hp hsz hone hcell hrel => exact .slice b off len cap _ _ _ vs hl hc (fun h => by cases h) (fun h => by cases h) (fun p N h => by cases h) (by simp) (by simp) (by simp) (by simp)
theorem sub_slice {m : SM} {sz : Nat} {es : List (List T)} : Sub (.t (.slice m sz es)) (.t (.slice .any sz es)) := fun _ _ _ h => .t _ _ (sub_sliceT (rel_t_inv h))
theorem sub_slNil {m : SM} {sz sz' : Nat} : Sub (.t (.slice m sz [])) (.t (.slice .any sz' [])) := fun _ _ _ h => .t _ _ (sub_nilT (rel_t_inv h))
theorem sub_tuple {l m : List AV} (h : SubL l m) : Sub (.tuple l) (.tuple m) := fun w g v hr => by
  cases hr with
  | tuple vs _ h1 h2 => have := h.rel (⟨h1, h2⟩ : RelL w g vs l); exact .tuple vs _ this.1 this.2
theorem sub_agg {l m : List AV} (h : SubL l m) : Sub (.agg l) (.agg m) := fun w g v hr => by
  cases hr with
  | agg vs _ h1 h2 => have := h.rel (⟨h1, h2⟩ : RelL w g vs l); exact .agg vs _ this.1 this.2
end Go.Am
/- Hw5 -/
namespace Go.Am
section
variable {P : Program} {te : TE} {w w' : World} {g : G} {σ : St}
end
section
variable {P : Program} {c : Conf} {n : Nat} {ops : Array Oper} {rest : List Oper} {env : Env} {σ : St} {o : Oper} {k : Env → St → Prop}
end
end Go.Am
/- Hw6 -/
namespace Go.Am
section
variable {P : Program} {c : Conf} {n : Nat} {ops : Array Oper} {rest : List Oper} {env : Env} {σ : St} {o : Oper} {k : Env → St → Prop}
theorem pSlice (hp0 : ProgOk P c) {t s0 b0 e : Nat} {z0 : List T} (ht : look c.te t = some ⟨s0, b0, z0, .slice e⟩) : P.underlying t = some (.slice e) := by
  obtain ⟨dd, hdd, hdk⟩ := (hp0.te _ _ ht).und'
  cases dd <;> simp [descK] at hdk; subst hdk; exact hdd
theorem pInt (hp0 : ProgOk P c) {t s0 b0 : Nat} {z0 : List T} {kk : IntKind} (ht : look c.te t = some ⟨s0, b0, z0, .int kk⟩) : P.underlying t = some (.int kk) := by
  obtain ⟨dd, hdd, hdk⟩ := (hp0.te _ _ ht).und'
  cases dd <;> simp [descK] at hdk; subst hdk; exact hdd
end
end Go.Am
/- Hw7 -/
namespace Go.Am
section
variable {P : Program} {c : Conf} {n : Nat} {ops : Array Oper} {rest : List Oper} {env : Env} {σ : St} {o : Oper} {k : Env → St → Prop}
end
end Go.Am
/- Hw8 -/
namespace Go.Am
section
variable {P : Program} {c : Conf} {n : Nat} {ops : Array Oper} {rest : List Oper} {env : Env} {σ : St} {o : Oper} {k : Env → St → Prop}
theorem zeroV_size {t : Nat} {ti : TI} (h : TeOk1 P t ti) : (zeroV ti).cells.size = ti.size := by
  have hzr := zero_rel (w := default) (g := ⟨fun _ => none, fun _ => False, fun _ _ => False, fun _ => False, fun _ => none, 0⟩) h
  rw [← h.len, ← liftT_len, ← hzr.1]; simp
theorem wrapN {m : Nat} (h : m < 9223372036854775808) : IntKind.i64.wrap (m : Int) = (m : Int) := by
  simp [IntKind.wrap, IntKind.bits, IntKind.signed]; omega
/- append(nil, make(.., m)...): room, and nothing known in it -/
theorem w_appZeroNil (hp0 : ProgOk P c) {cl : Call} {so xo : Operand} {t u e d s0 b0 sz0 esz ebb u1 u2 m : Nat} {z0 ez uz : List T} {ek : TK} {es0 : List (List T)} {mn : Int} {x : AV} {e1 e2 : Env} {s : St} (hg : o.guard = none) (ho : o.op = .call cl) (hcl : cl.callee = .builtin .append) (ha : cl.args = #[so, xo])
    (hty : cl.argTypes = #[t, u]) (hd : o.dst = some d) (hs : ev env so = some (.t (.slice .nil sz0 es0))) (hx : ev env xo = some (.t (.int .i64 mn))) (ht : look c.te t = some ⟨s0, b0, z0, .slice e⟩) (he : look c.te e = some ⟨esz, ebb, ez, ek⟩) (hu : look c.te u = some ⟨u1, u2, uz, .int .i64⟩) (hmn : mn = (m : Int))
    (hf : freshK (2 * d) env σ (fun env σ => some (AV.row (2 * d) esz 0 m, env, (2 * d, Blk.grow esz []) :: σ)) = some (x, e1, s)) (hp : putV n o.dst x e1 = some e2)
    (hpos : 0 < m) (hlim : m * (ebb + 1) ≤ 140737488355328) (h : hOps P n ops rest e2 s k) : hOps P n ops (o :: rest) env σ k := by
  subst hmn
  simp only [hOps, wantedH, hg]
  intro w g a hi hee
  have hut := pSlice hp0 ht
  have huu := pInt hp0 hu
  obtain ⟨inf, hinf, hs1, hs2, hs3⟩ := (hp0.te _ _ he).info'
  have hzs : (zeroV ⟨esz, ebb, ez, ek⟩).cells.size = esz := zeroV_size (hp0.te _ _ he)
  have hb := bytes_split hlim
  have hus : a.eval so = .slice none 0 0 := by
    rcases slice_inv (rel_t_inv (ev_rel hee hs)) with ⟨h1, _⟩ | ⟨_, _, _, _, _, _, h1, _⟩ | ⟨_, _, _, h1⟩
    · exact h1
    · exact absurd rfl h1
    · exact absurd rfl h1
  have hxs : a.eval xo = .int .i64 (m : Int) := rel_int (ev_rel hee hx)
  obtain ⟨env1, σ1, g1, hk, hlk, hext, hi1, he1⟩ := fresh_ok hf hi hee
  simp at hk
  obtain ⟨rfl, rfl, rfl⟩ := hk
  have hw : IntKind.i64.wrap (m : Int) = (m : Int) := wrapN (by omega)
  have hby : m * inf.bytes ≤ 140737488355328 := by rw [hs2]; exact hb.1
  have hbig : ¬ (281474976710656 < (m : Int) * (inf.bytes : Int)) := by
    rw [← Int.natCast_mul]; omega
  have h63' : ¬ (9223372036854775807 < (m : Int)) := by omega
  have h48' : ¬ (281474976710656 < Builtin.nextslicecap m 0 * inf.bytes) := by rw [nextslicecap_zero hpos]; omega
  have hn0 : m ≠ 0 := by omega
  obtain ⟨arr, hrun, harr⟩ : ∃ arr : Array Value, (Builtin.append_ #[t, u] o.type #[.slice none 0 0, .int .i64 (m : Int)]).run P w = .ok (.slice (some ⟨w.heap.size, 0, none⟩) m (grownCap w m 0 e)) (w.drew.alloc (.cells arr e)) ∧ arr.size = grownCap w m 0 e * esz := by
    have hge := grownCap_ge w m 0 e
    refine ⟨(if m * esz = 0 then #[] else Builtin.zeroCells (zeroV ⟨esz, ebb, ez, ek⟩).cells m) ++ Builtin.zeroCells (zeroV ⟨esz, ebb, ez, ek⟩).cells (grownCap w m 0 e - m), ?_, ?_⟩
    · have hneg : ¬ ((m : Int) < 0) := by omega
      simp [Builtin.append_, Go.run_underlying hut, Go.run_underlying huu, sizeOf, typeInfo, zeroValue, hinf, hs1, hs3, asInt, asIntOf, hw, hneg, hbig, hn0, h63', h48', Question.forced, run_firstCells_none, newRow, grownCap]
      by_cases hz : m * esz = 0 <;> simp [hz]
    · by_cases hz : m * esz = 0
      · have : esz = 0 := by
          rcases Nat.mul_eq_zero.1 hz with h' | h'
          · omega
          · exact h'
        simp only [hz, if_true, Array.size_append, size_zeroCells, hzs]
        rw [this]; simp
      · simp only [hz, if_false, Array.size_append, size_zeroCells, hzs, ← Nat.add_mul]
        congr 1; omega
  have hm := More.drewAlloc w (.cells arr e)
  have hge := grownCap_ge w m 0 e
  obtain ⟨k1, k2, k3⟩ := own_new hi1 hlk hm (B := .grow esz []) (fun hr => ⟨by simp, .inr ⟨w.heap.size, arr, e, by simp [G.with], .inr rfl, hm.new, by simp, by simp⟩⟩)
  refine Does.value (v := .slice (some ⟨w.heap.size, 0, none⟩) m (grownCap w m 0 e)) (w' := w.drew.alloc (.cells arr e)) (by simp [execOp, ho, resolve, hcl, invoke, builtin, ha, hty, hus, hxs, hrun]) ⟨_, _, _, ⟨_, hext.trans k1, ?_, k2, he1.mono k3⟩, e2, hp, h⟩
  exact .row (2 * d) esz 0 m w.heap.size 0 _ e arr.size (by simp [G.with]) (by simp only [World.shape?, hm.new]) (.inl (by simp)) hge (by simp [harr])
/- cap of nothing -/
theorem w_capNil (hp0 : ProgOk P c) {cl : Call} {so : Operand} {t s0 b0 e sz0 : Nat} {z0 : List T} {es0 : List (List T)} {e2 : Env} (hg : o.guard = none) (ho : o.op = .call cl) (hcl : cl.callee = .builtin .cap) (ha : cl.args = #[so]) (hty : cl.argTypes = #[t]) (hs : ev env so = some (.t (.slice .nil sz0 es0)))
    (ht : look c.te t = some ⟨s0, b0, z0, .slice e⟩) (hp : putV n o.dst (.t (.int .i64 0)) env = some e2) (h : hOps P n ops rest e2 σ k) : hOps P n ops (o :: rest) env σ k := by
  simp only [hOps, wantedH, hg]
  intro w g a hi hee
  have hut := pSlice hp0 ht
  have hus : a.eval so = .slice none 0 0 := by
    rcases slice_inv (rel_t_inv (ev_rel hee hs)) with ⟨h1, _⟩ | ⟨_, _, _, _, _, _, h1, _⟩ | ⟨_, _, _, h1⟩
    · exact h1
    · exact absurd rfl h1
    · exact absurd rfl h1
  have hrun : (Builtin.cap_ #[t] o.type #[.slice none 0 0]).run P w = .ok (.int .i64 0) w := by
    simp [Builtin.cap_, Go.run_underlying hut, goInt]
  exact Does.value (v := .int .i64 0) (w' := w) (by simp [execOp, ho, resolve, hcl, invoke, builtin, ha, hty, hus, hrun]) ⟨_, env, σ, ⟨g, Ext.refl _ _, .t _ _ (.int _ _), hi, hee⟩, e2, hp, h⟩
end
end Go.Am
