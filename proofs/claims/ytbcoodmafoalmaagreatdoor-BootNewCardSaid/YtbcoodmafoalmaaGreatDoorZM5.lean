/- The general texts of the abstract machine, joined: Hw9, Hw10, Hw11, Hw12, Hw13, Ax. -/
import Derived.Test.YtbcoodmafoalmaaGreatDoorZM3
set_option linter.unusedVariables false
set_option linter.unusedSimpArgs false
/- Hw9 -/
namespace Go.Am
section
variable {w : World} {g : G} {σ : St} {D : Nat} {o0 : Obj}
theorem loop_put (hi : Inv w g σ) {b l : Nat} {st st' : LoopState} {pe pe' : Option Code} {ps : Array Tmp} {asg bd : Code} {n : Nat} {env : Env} (hb : look σ b = some (.loop l st pe ps asg bd n env)) :
    ∃ r : Loop, w.heap[l]? = some (.loop r) ∧ r.state = st ∧ r.pending = pe ∧ r.params = ps ∧ r.assign = asg ∧ r.body = bd ∧ n ≤ r.tmps.size ∧ g.own l ∧ (∀ t x, look env t = some x → Rel w g (r.tmps.getD t undef) x) ∧
      Inv (w.putObj l (.loop { r with state := st', pending := pe' })) g (upd σ b (.loop l st' pe' ps asg bd n env)) := by
  obtain ⟨r, h1, h2, h3, ⟨h4, h5, h6, h7, h8⟩, h9, h10⟩ := hi.ok b _ hb
  refine ⟨r, h3, h4, h5, h6, h7, h8, h9, h2, h10, ?_⟩
  have hr : ∀ v x, Rel w g v x → Rel (w.putObj l (.loop { r with state := st', pending := pe' })) g v x := fun v x h => nc_rel h3 rfl _ h
  refine ⟨fun c C hC => ?_, fun c => ?_, hi.inj, fun blk h => by rw [World.putObj_size]; exact hi.lt blk h, fun c hc => ⟨(hi.bx c hc).1, ?_⟩, hi.dis, fun p hp => ⟨(hi.im p hp).1, ?_⟩, by rw [World.putObj_size]; exact hi.lo, hi.sx.mono (by rw [World.putObj_size]; exact Nat.le_refl _) rfl (fun _ _ _ h => h) (fun blk e _ _ hn => World.putObj_heap_other fun e => hn b (e ▸ h1)) (fun c blk h => .inl ⟨c, h⟩) (fun c L hL => ?_)⟩
  · rw [look_upd] at hC
    split at hC
    · rename_i e; subst e; cases hC
      exact ⟨{ r with state := st', pending := pe' }, h1, h2, World.putObj_heap_same (heap_lt h3), ⟨rfl, rfl, h6, h7, h8⟩, h9, fun t x ht => hr _ _ (h10 t x ht)⟩
    · rename_i hne
      refine (hi.ok c C hC).mono rfl (fun _ _ h => h) (fun blk hb' => World.putObj_heap_other fun e => ?_) hr
      subst e; exact hne (hi.inj _ _ _ h1 hb')
  · rw [look_upd]
    by_cases e : b = c
    · subst e; simp [h1]
    · simp only [if_neg e]; exact hi.dom c
  · rw [look_upd]
    by_cases e : b = c
    · subst e
      obtain ⟨_, cs, h⟩ := hi.bx b hc
      rw [hb] at h; cases h
    · simp only [if_neg e]; exact (hi.bx c hc).2
  · have hq := (hi.im p hp).2
    have hne : p.1 ≠ l := fun e => by rw [e] at hq; simp [World.cell?, h3] at hq
    rw [cell_of_heap (World.putObj_heap_other hne)]; exact hq
  · rw [look_upd] at hL
    split at hL
    · cases hL
    · exact hL
theorem Marks.put {ds : List Deferred} {r : Loop} (hD : w.heap[D]? = some (.loop r)) (o : Obj) (h : Marks w g ds) : Marks (w.putObj D o) g ds := by
  obtain ⟨Ds, h1, h2, h3⟩ := h
  refine ⟨Ds, h1, h2, fun E hE => ?_⟩
  obtain ⟨k1, k2⟩ := h3 E hE
  have hne : E ≠ D := fun e => by subst e; rw [hD] at k1; cases k1
  exact ⟨by rw [World.putObj_heap_other hne]; exact k1, k2⟩
end
/- yield's arguments in the parameters -/
def putPs : List Nat → List AV → Env → Env
  | t :: ts, x :: xs, e => putPs ts xs ((t, x) :: e)
  | _, _, e => e
theorem putPs_rel {w : World} {g : G} : ∀ (ps : List Nat) (vs : List Value) (xs : List AV) (tmps : Array Value) (e : Env), vs.length = xs.length → (∀ (i : Nat) v x, vs[i]? = some v → xs[i]? = some x → Rel w g v x) → (∀ t ∈ ps, t < tmps.size) → RelEnv w g ⟨tmps, []⟩ e →
    RelEnv w g ⟨(ps.zip vs).foldl (fun tmps p => tmps.setIfInBounds p.1 p.2) tmps, []⟩ (putPs ps xs e)
  | [], vs, xs, tmps, e, _, _, _, he => by simpa [putPs] using he
  | t :: ts, [], [], tmps, e, _, _, _, he => by simpa [putPs] using he
  | t :: ts, v :: vs, x :: xs, tmps, e, hl, hr, hlt, he => by
    simp only [List.zip_cons_cons, List.foldl_cons, putPs]
    refine putPs_rel ts vs xs _ _ (by simpa using hl) (fun i v x a b => hr (i + 1) v x (by simpa using a) (by simpa using b)) (fun u hu => by simp; exact hlt u (by simp [hu])) ?_
    intro u y hy
    rw [look_cons] at hy
    have ht := hlt t (by simp)
    split at hy
    · rename_i e'; subst e'; cases hy
      have : (tmps.setIfInBounds t v).getD t undef = v := by simp [Array.getD, ht]
      rw [this]; exact hr 0 v x rfl rfl
    · rename_i e'
      have e2 : (tmps.setIfInBounds t v).getD u undef = tmps.getD u undef := by
        simp only [Array.getD_eq_getD_getElem?]
        rw [Array.getElem?_setIfInBounds_ne e']
      simp only [e2]; exact he u y hy
  | t :: ts, [], x :: xs, _, _, hl, _, _, _ => by simp at hl
  | t :: ts, v :: vs, [], _, _, hl, _, _, _ => by simp at hl
theorem fold_size : ∀ (l : List (Nat × Value)) (tmps : Array Value), (l.foldl (fun tmps p => tmps.setIfInBounds p.1 p.2) tmps).size = tmps.size
  | [], tmps => rfl
  | p :: r, tmps => by simp only [List.foldl_cons]; rw [fold_size r]; simp
def freeE : Env → Env
  | [] => []
  | (t, x) :: r => (t, bif x.free then x else .top) :: freeE r
theorem freeE_rel {w w' : World} {g g' : G} (hk : Keeps w g.M w' g'.M) {a : Act} : ∀ {env : Env}, RelEnv w g a env → RelEnv w' g' a (freeE env) := by
  intro env he t x h
  have key : ∀ (env : Env), look (freeE env) t = some x → ∃ y, look env t = some y ∧ ((y.free = true ∧ x = y) ∨ x = .top) := by
    intro env
    induction env with
    | nil => intro h; simp [freeE, look] at h
    | cons p r ih =>
      intro h
      obtain ⟨k, y⟩ := p
      simp only [freeE] at h
      rw [look_cons] at h ⊢
      split at h
      · rename_i e
        simp only [e, if_true]
        cases hy : y.free with
        | true => rw [hy] at h; cases h; exact ⟨_, rfl, .inl ⟨hy, rfl⟩⟩
        | false => rw [hy] at h; cases h; exact ⟨_, rfl, .inr rfl⟩
      · rename_i e; simp only [if_neg e]; exact ih h
  obtain ⟨y, h1, h2 | h2⟩ := key env h
  · obtain ⟨hf, rfl⟩ := h2
    exact (he t _ h1).free hk hf
  · subst h2; exact .top _
def jumpOf : Exit → Option (Option Code × Bool × LoopState)
  | .normal => some (none, true, .ready)
  | .ret => some (some .ret, false, .done)
  | .exit id => some (some (.exit id), false, .done)
  | _ => none
theorem IsW.inRound {F : Fence} (h : IsW F) (l : Nat) : IsW (F.inRound l) := by
  rcases h with rfl | ⟨l', rfl⟩
  · exact .inr ⟨l, rfl⟩
  · exact .inr ⟨l, rfl⟩
section
variable {P : Program} {c : Conf} {n : Nat} {ops : Array Oper} {rest : List Oper} {env : Env} {σ : St} {o : Oper} {k : Env → St → Prop} {K : Exit → Env → St → Prop}
theorem func_inv {w : World} {g : G} {v : Value} {fn : Fn} {xs : List T} (h : Rel w g v (.t (.func fn [] xs))) : ∃ vs : List Value, v = .func fn #[] vs.toArray ∧ vs.length = xs.length ∧ ∀ (i : Nat) v x, vs[i]? = some v → xs[i]? = some x → RelT w g.M v x := by
  have h := rel_t_inv h
  cases h with
  | func _ v1 v2 _ _ h1 h2 r1 r2 =>
    have : v1 = [] := List.eq_nil_of_length_eq_zero (by simpa using h1)
    subst this
    exact ⟨v2, rfl, h2, r2⟩
/- a call of yield: a round -/
theorem w_yield {cl : Call} {fo : Operand} {l b n' : Nat} {ps : Array Tmp} {asg bd : Code} {envL : Env} {xs : List AV} (hg : o.guard = none) (ho : o.op = .call cl) (hcl : cl.callee = .value fo) (hfo : ev env fo = some (.t (.func (.yield l) [] []))) (has : evL env cl.args.toList = some xs)
    (hb : look σ b = some (.loop l .ready none ps asg bd n' envL)) (hlen : Nat.beq xs.length ps.size = true) (hps : (ps.toList.all fun t => Nat.blt t n') = true) (hr1 : noRF asg = true) (hr2 : noRF bd = true)
    (h : Tr P n' asg (putPs ps.toList xs envL) σ (fun ex e s => ex = .normal ∧ ∃ envL1, look s b = some (.loop l .ready none ps asg bd n' envL1) ∧
      Tr P n' bd e (upd s b (.loop l .busy none ps asg bd n' envL1)) (fun ex _ s => ∃ jump jb st envL2, jumpOf ex = some (jump, jb, st) ∧ look s b = some (.loop l .busy none ps asg bd n' envL2) ∧
        ∃ e3, putV n o.dst (.t (.bool jb)) (freeE env) = some e3 ∧ hOps P n ops rest e3 (upd s b (.loop l st jump ps asg bd n' envL2)) k))) :
    hOps P n ops (o :: rest) env σ k := by
  simp only [hOps, wantedH, hg]
  intro w g a hi he F hF next Q hn
  have hlen' : xs.length = ps.size := Nat.eq_of_beq_eq_true hlen
  obtain ⟨r, q1, q2, q3, q4, q5, q6, q7, q8, q9, _⟩ := loop_put (st' := .ready) (pe' := none) hi hb
  obtain ⟨vs0, hv, hv0, _⟩ := func_inv (ev_rel he hfo)
  have : vs0 = [] := List.eq_nil_of_length_eq_zero (by simpa using hv0)
  subst this
  obtain ⟨hl1, hrel⟩ := evL_rel he has
  have hrun : (o.semAt F.round a.eval).run P w = .ok (.round l r.fn ((r.params.zip (cl.args.map a.eval)).foldl (fun tmps (t, a) => tmps.setIfInBounds t a) r.tmps) r.assign r.body) w := by
    rw [Oper.semAt_eq _ _ _ (fun c hc => by rw [ho] at hc; cases hc)]
    have hy := run_yield (P := P) (args := cl.args.map a.eval) q1 (by rw [q4, ← hlen', ← hl1]; simp)
    simp only [execOp, ho, Sem.run_bind, resolve, hcl, hv, Deferred.ofValue, Sem.run_pure, Result.andThen_ok, invoke]
    have e : (([] : List Value).toArray ++ (cl.args.map a.eval ++ ([] : List Value).toArray)) = cl.args.map a.eval := by apply Array.ext'; simp
    first
      | rw [e]; exact hy
      | (simp only [List.toArray_nil, Array.empty_append, Array.append_empty]; exact hy)
      | simpa using hy
  refine ⟨fun f _ => hF.fn f, ?_⟩
  rw [q5, q6] at hrun
  rw [hrun]
  refine ⟨hF.depth, roundIn_of_wpIn (hF.fn _) ?_⟩
  have hgood : Good n' w g { tmps := (r.params.zip (cl.args.map a.eval)).foldl (fun tmps (t, a) => tmps.setIfInBounds t a) r.tmps, defers := [] } (putPs ps.toList xs envL) σ := by
    have e1 : (r.params.zip (cl.args.map a.eval)).foldl (fun tmps (t, a) => tmps.setIfInBounds t a) r.tmps = (ps.toList.zip (cl.args.toList.map a.eval)).foldl (fun tmps p => tmps.setIfInBounds p.1 p.2) r.tmps := by
      rw [← Array.foldl_toList, Array.toList_zip, q4]; simp
    rw [e1]
    refine ⟨putPs_rel _ _ _ _ _ (by simpa using hl1) hrel (fun t ht => ?_) q9, hi, Marks.nil, ?_⟩
    · have := List.all_eq_true.1 hps t ht
      have : t < n' := by simpa [Nat.blt_eq] using this
      omega
    · simp only [fold_size]; exact q7
  refine wpIn_mono (h (F.inRound l) (hF.inRound l) (.inr hr1) w g _ hgood) ?_
  rintro ex a1 w1 ⟨e1, s1, g1, x1, k1, rfl, envL1, hl1', hb1⟩
  obtain ⟨r1, p1, p2, p3, p4, p5, p6, p7, p8, p9, p10⟩ := loop_put (st' := .busy) (pe' := none) k1.inv hl1'
  refine ⟨_, run_beginRound p1 p2, ?_⟩
  have hx2 : Ext w g (w1.putObj l (.loop { r1 with state := .busy })) g1 := nc_ext p1 rfl _ x1 (.inl q8)
  have p10' : Inv (w1.putObj l (.loop { r1 with state := .busy })) g1 (upd s1 b (.loop l .busy none ps asg bd n' envL1)) := by
    have e : ({ r1 with state := .busy, pending := none } : Loop) = { r1 with state := .busy } := by cases r1; simp at p3; simp [p3]
    rw [← e]; exact p10
  have hgood2 : Good n' (w1.putObj l (.loop { r1 with state := .busy })) g1 a1 e1 (upd s1 b (.loop l .busy none ps asg bd n' envL1)) :=
    ⟨fun t x ht => nc_rel p1 rfl _ (k1.env t x ht), p10', k1.defers.put p1 _, k1.size⟩
  refine wpIn_mono (hb1 (F.inRound l) (hF.inRound l) (.inr hr2) _ g1 _ hgood2) ?_
  have fin : ∀ (ex : Exit) (a3 : Act) (w3 : World) (e4 : Env) (s3 : St) (g3 : G) (jump : Option Code) (envL2 : Env) (e3 : Env), Ext (w1.putObj l (.loop { r1 with state := .busy })) g1 w3 g3 → Good n' w3 g3 a3 e4 s3 →
      look s3 b = some (.loop l .busy none ps asg bd n' envL2) → putV n o.dst (.t (.bool jump.isNone)) (freeE env) = some e3 → hOps P n ops rest e3 (upd s3 b (.loop l (if jump.isNone then .ready else .done) jump ps asg bd n' envL2)) k →
      ∃ v w4, (Instr.endRound l jump).run P w3 = .ok v w4 ∧ next (a.put o.dst v) w4 := by
    intro ex a3 w3 e4 s3 g3 jump envL2 e3 hx3 hg3 hl3 hput hops
    obtain ⟨r3, t1, t2, t3, t4, t5, t6, t7, t8, t9, t10⟩ := loop_put (st' := if jump.isNone then .ready else .done) (pe' := jump) hg3.inv hl3
    refine ⟨_, _, run_endRound jump t1, hn _ _ ⟨.t (.bool jump.isNone), freeE env, _, ⟨g3, ?_, .t _ _ (.bool _), t10, ?_⟩, e3, hput, hops⟩⟩
    · exact nc_ext t1 rfl _ (hx2.trans hx3) (.inl q8)
    · exact freeE_rel (nc_ext t1 rfl _ (hx2.trans hx3) (.inl q8)).keeps he
  rintro ex a3 w3 ⟨e4, s3, g3, hx3, hg3, jump, jb, st, envL2, hj, hl3, e3, hput, hops⟩
  cases ex with
  | normal => cases hj; exact fin .normal a3 w3 e4 s3 g3 none envL2 e3 hx3 hg3 hl3 hput hops
  | ret => cases hj; exact fin .ret a3 w3 e4 s3 g3 (some .ret) envL2 e3 hx3 hg3 hl3 hput hops
  | exit id => cases hj; exact fin (.exit id) a3 w3 e4 s3 g3 (some (.exit id)) envL2 e3 hx3 hg3 hl3 hput hops
  | goto t => cases hj
  | panic ch => cases hj
  | outgrown => cases hj
theorem downS_upd_even {b : Nat} {l : Nat} {st : LoopState} {pe : Option Code} {ps : Array Tmp} {asg bd : Code} {n : Nat} {envL : Env} (hb : b % 2 = 0) : ∀ {σ : St}, downS (upd σ b (.loop l st pe ps asg bd n envL)) = downS σ := by
  have hz : ∀ k, Nat.beq k b = true → Nat.beq (k % 2) 1 = false := fun k hk => by
    have := Nat.eq_of_beq_eq_true hk; subst this; rw [hb]; rfl
  intro σ
  induction σ with
  | nil => simp only [upd, downS, hb]; rfl
  | cons p r ih =>
    obtain ⟨k, B⟩ := p
    simp only [upd]
    cases hk : Nat.beq k b with
    | true => cases B <;> simp [downS, hz k hk]
    | false => cases B <;> simp [downS, ih]
/- the label of a loop's record, in the walk of the function that is ranged over -/
def RLAB : Nat := 200000
/- the pending jump, as an exit -/
def jumpEx : Option Code → Option Exit
  | none => some .normal
  | some .ret => some .ret
  | some (.exit id) => some (.exit id)
  | _ => none
theorem IsW.wide_of {F : Fence} (h : IsW F) (hr : F.round = none) : F = Fence.wide := by
  rcases h with rfl | ⟨l, rfl⟩
  · rfl
  · simp [Fence.inRound] at hr
/- the statement: the function that is ranged over is walked, its yields are rounds -/
theorem w_range {gop : Operand} {gf : Nat} {caps : List T} {ps : Array Tmp} {asg bd : Code} {fn : Func} {code : Code} (hp : ProgOk P c) (hg : ev env gop = some (.t (.func (.func gf) [] caps))) (hf : P.funcs[gf]? = some fn) (hbody : fn.body = some code)
    (hle : Nat.ble (caps.length + 1) fn.ntmps = true)
    (h : ∀ l : Nat, Tr P fn.ntmps code (enterE 0 (.t (.func (.yield l) [] []) :: liftT caps)) ((RLAB, .loop l .ready none ps asg bd n (upE env)) :: upS σ)
      (fun ex e s => (ex = .normal ∨ ex = .ret) ∧ retV c.te true fn.results.toList e s = some (.tuple [], s) ∧ ∃ st pe envL ex', look s RLAB = some (.loop l st pe ps asg bd n envL) ∧ st ≠ .busy ∧ jumpEx pe = some ex' ∧
        K ex' (boxE σ env) (downS s))) :
    Tr P n (.rangeFunc gop ps asg bd) env σ K := by
  intro F hF hrf w g a hgd
  have hro : F.round = none := by rcases hrf with h | h; exact h; simp [noRF] at h
  have hFw := hF.wide_of hro
  subst hFw
  refine wpIn_rangeFunc ?_
  intro fn0 hfn0
  rw [hro]
  obtain ⟨vs, hv, hvl, hvr⟩ := func_inv (ev_rel hgd.env hg)
  obtain ⟨rec, hrec⟩ : ∃ rec : Loop, rec = { state := .ready, pending := none, fn := fn0, tmps := a.tmps, params := ps, assign := asg, body := bd, defers := w.heap.size } := ⟨_, rfl⟩
  obtain ⟨W0, hW0⟩ : ∃ W0, w.alloc (.deferred (some [])) = W0 := ⟨_, rfl⟩
  obtain ⟨W1, hW1⟩ : ∃ W1, W0.alloc (.loop rec) = W1 := ⟨_, rfl⟩
  have hm0 : More w W0 (.deferred (some [])) := hW0 ▸ More.alloc w _
  have hm1 : More W0 W1 (.loop rec) := hW1 ▸ More.alloc W0 _
  obtain ⟨x0, i0, r0⟩ := imm_new (up_inv hgd.inv) hm0
  have hl0 : look (upS σ) RLAB = none := by
    have := (up_inv hgd.inv).dom RLAB
    simp [G.up, RLAB] at this
    exact this
  have hB : (∀ v x, Rel W0 (g.up σ) v x → Rel W1 ((g.up σ).with RLAB (some W0.heap.size)) v x) → BlkOk W1 ((g.up σ).with RLAB (some W0.heap.size)) RLAB (.loop W0.heap.size .ready none ps asg bd n (upE env)) := by
    intro hr
    refine ⟨rec, by simp [G.with], by simp [G.with], hm1.new, by subst hrec; exact ⟨rfl, rfl, rfl, rfl, rfl⟩, by subst hrec; exact hgd.size, fun t x ht => ?_⟩
    rw [upE_get] at ht
    cases hl : look env t with
    | none => simp [hl] at ht
    | some y =>
      simp [hl] at ht; subst ht; subst hrec
      exact hr _ _ (r0 _ _ (up_rel (hgd.env t y hl)))
  obtain ⟨x1, i1, r1⟩ := own_new i0 hl0 hm1 hB
  have hsz0 : W0.heap.size = w.heap.size + 1 := hm0.size
  refine ⟨W0.heap.size, [{ target := .collected w.heap.size, args := #[] }], W1, { target := .fn (.func gf) vs.toArray, args := #[.func (.yield W0.heap.size) #[] #[]] }, W1, gf,
    #[.func (.yield W0.heap.size) #[] #[]] ++ vs.toArray, W1, ?_, ?_, (fun f' _ => trivial), ?_, (by intro h; cases h), ?_⟩
  · rw [← hW1, ← hW0, hrec, World.size_alloc]; exact run_enterLoop_outer _ _ _ _ _
  · simp only [resolve, hv]
    simp [go_sem]
  · simp only [invoke]
    rw [call_enter hp hf (by simp [hbody])]
  · have hrelL : RelL W1 ((g.up σ).with RLAB (some W0.heap.size)) (.func (.yield W0.heap.size) #[] #[] :: vs) (.t (.func (.yield W0.heap.size) [] []) :: liftT caps) := by
      refine RelL.cons (.t _ _ ?_) (liftT_rel hvl fun i v x a b => ((hvr i v x a b).mono ?_))
      · exact RelT.func _ [] [] [] [] rfl rfl (fun i v x a => by simp at a) (fun i v x a => by simp at a)
      · have k := (x0.trans x1).keeps
        intro b o v hb hc
        exact k b o v (fun hm => hb hm) hc
    refine (callsIn_wide (n := 0 - 1)).2 ?_
    have e : (#[Value.func (.yield W0.heap.size) #[] #[]] ++ vs.toArray) = (Value.func (.yield W0.heap.size) #[] #[] :: vs).toArray := by apply Array.ext'; simp
    rw [e]
    refine enter_sound hf hbody (by simpa [liftT_len] using hle) (h W0.heap.size) hrelL i1 ?_
    rintro ex a' w' g' env' σ' hx hgd' ⟨hex, hret, st, pe, envL, ex', hlk, hst, hj, hK⟩
    obtain ⟨v, g2, q1, q2, _, q4⟩ := ret_sound hp hgd' hret
    refine ⟨hex, v, q1, ?_⟩
    obtain ⟨r3, t1, t2, t3, t4, t5, t6, t7, t8, t9, t10⟩ := loop_put (st' := .exhausted) (pe' := pe) q4 hlk
    have hpe : ({ r3 with state := .exhausted, pending := pe } : Loop) = { r3 with state := .exhausted } := by cases r3; simp at t3; simp [t3]
    rw [hpe] at t10
    have hxa : Ext w (g.up σ) w' g2 := ((x0.trans x1).trans hx).trans q2
    have hxb : Ext w (g.up σ) (w'.putObj W0.heap.size (.loop { r3 with state := .exhausted })) g2 := nc_ext t1 rfl _ hxa (.inr (by omega))
    have hdn : downS (upd σ' RLAB (.loop W0.heap.size .exhausted pe ps asg bd n envL)) = downS σ' := downS_upd_even (by simp [RLAB])
    have hInv := down_inv hgd.inv t10 hxb
    rw [hdn] at hInv
    have hExt := down_ext hgd.inv hxb
    have hD1 : W1.heap[w.heap.size]? = some (.deferred (some [])) := by rw [hm1.old _ (by omega)]; exact hm0.new
    have hno1 : ¬ ((g.up σ).with RLAB (some W0.heap.size)).own w.heap.size := by
      rintro (h | h)
      · have := hgd.inv.lt _ (.inl h); omega
      · simp at h; omega
    have hsz1 : W1.heap.size = W0.heap.size + 1 := hm1.size
    have hno2 : ¬ g2.own w.heap.size := fun h => hno1 ((hx.trans q2).own _ (by omega) h)
    have hD2 : w'.heap[w.heap.size]? = some (.deferred (some [])) := by rw [hx.keep _ (by omega) hno1]; exact hD1
    have hgood : Good n (w'.putObj W0.heap.size (.loop { r3 with state := .exhausted })) (g2.down g) { a with defers := [{ target := .collected w.heap.size, args := #[] }] ++ a.defers } (boxE σ env) (downS σ') := by
      refine ⟨fun t x ht => box_env hxb hgd.env t x ht, hInv, ?_, hgd.size⟩
      obtain ⟨Ds, d1, d2, d3⟩ := hgd.defers.ext hExt
      obtain ⟨Ds', d1', _, d3'⟩ := hgd.defers
      have hDs : Ds = Ds' := by
        have : Ds.map (fun D => ({ target := .collected D, args := #[] } : Deferred)) = Ds'.map (fun D => ({ target := .collected D, args := #[] } : Deferred)) := by rw [← d1, ← d1']
        exact List.map_inj_right (fun x y hxy => by simpa using hxy) |>.1 this
      refine ⟨w.heap.size :: Ds, by simp [d1], ?_, ?_⟩
      · refine List.nodup_cons.2 ⟨fun hm => ?_, d2⟩
        have := heap_lt (d3' _ (hDs ▸ hm)).1
        omega
      · intro D hD
        simp only [List.mem_cons] at hD
        rcases hD with rfl | hD
        · exact ⟨by rw [World.putObj_heap_other (by omega)]; exact hD2, hno2, hgd.inv.lo⟩
        · exact d3 D hD
    have hrunE : (Instr.endLoop W0.heap.size).run P w' = .ok pe (w'.putObj W0.heap.size (.loop { r3 with state := .exhausted })) := by
      have := run_endLoop (P := P) t1 (by rw [t2]; exact hst)
      rw [this, t3]
    refine ⟨pe, _, hrunE, ?_⟩
    cases pe with
    | none => cases hj; exact ⟨_, _, _, hExt, hgood, hK⟩
    | some cc =>
      cases cc with
      | ret => cases hj; exact wpIn_ret ⟨_, _, _, hExt, hgood, hK⟩
      | exit id => cases hj; exact wpIn_exit ⟨_, _, _, hExt, hgood, hK⟩
      | _ => cases hj
end
end Go.Am
/- Hw10 -/
namespace Go.Am
theorem frzS_upd {b sz : Nat} {es : List (List T)} {B : Blk} : ∀ {σ : St}, frzS b sz es (upd σ b B) = frzS b sz es σ
  | [] => by simp [upd, frzS]
  | (k, C) :: r => by
    simp only [upd]
    by_cases h : k = b
    · subst h; simp [frzS]
    · simp [frzS, beq_false h, frzS_upd (σ := r)]
theorem SpOk.upd {w : World} {g : G} {σ : St} (h : SpOk w g σ) (b : Nat) {B : Blk} (hB : ∀ L, B ≠ .rights L) : SpOk w g (Am.upd σ b B) :=
  h.mono (Nat.le_refl _) rfl (fun _ _ _ h => h) (fun _ _ _ _ _ => rfl) (fun c blk h => .inl ⟨c, h⟩) (fun c L hL => by
    rw [look_upd] at hL
    split at hL
    · exact absurd (Option.some.inj hL) (hB L)
    · exact hL)
/- a box of trees, as an immutable thing -/
theorem Tr.freezeBox {P : Program} {n : Nat} {env : Env} {σ : St} {K : Exit → Env → St → Prop} {code : Code} (t b : Nat) {cs : List T} (hev : b % 2 = 0) (hl : look env t = some (.ref b 0)) (hb : look σ b = some (.cells (liftT cs))) (hone : cs.all oneT = true)
    (h : Tr P n code ((t, .t (.ptr cs)) :: frzE b cs.length [cs] env) (frzS b cs.length [cs] σ) K) : Tr P n code env σ K := by
  intro F hF hrf w g a hg
  have hi := hg.inv
  obtain ⟨blk, vs, e, q1, q2, q3, q4, q5⟩ := hi.ok b _ hb
  have hone' : ∀ (i : Nat) x, cs[i]? = some x → oneT x = true := fun i x hx => List.all_eq_true.1 hone x (List.mem_of_getElem? hx)
  have hrel : ∀ (i : Nat) v x, vs[i]? = some v → cs[i]? = some x → RelT w g.M v x := fun i v x hv hx => rel_t_inv (q5 i v (.t x) hv (by rw [liftT_get, hx]; rfl))
  have hi1 : Inv w g (upd σ b (.grow cs.length [cs])) := by
    refine ⟨fun c C hC => ?_, fun c => ?_, hi.inj, hi.lt, fun c hc => ⟨(hi.bx c hc).1, ?_⟩, hi.dis, hi.im, hi.lo, hi.sx.upd b (fun L h => by cases h)⟩
    · rw [look_upd] at hC
      split at hC
      · rename_i e1; subst e1; cases hC
        refine ⟨fun e he => by simp at he; subst he; rfl, .inr ⟨blk, vs, e, q1, q2, q3, ?_, fun i v x hv hx => ?_⟩⟩
        · simp; rw [q4, liftT_len]; exact Nat.le_refl _
        · simp at hx; exact ⟨hone' i x hx, hrel i v x hv hx⟩
      · exact hi.ok c C hC
    · rw [look_upd]
      by_cases e1 : b = c
      · subst e1; simp [q1]
      · simp only [if_neg e1]; exact hi.dom c
    · rw [look_upd]
      have hne : b ≠ c := fun e1 => by subst e1; have := (hi.bx _ hc).1; omega
      simp only [if_neg hne]; exact (hi.bx c hc).2
  obtain ⟨k1, k2, k3⟩ := freeze hi1 (b := b) (sz := cs.length) (es := [cs]) (by rw [look_upd]; simp)
  rw [frzS_upd] at k2
  refine wpIn_mono (h F hF hrf w _ a ⟨fun t' x hx => ?_, k2, hg.defers.ext k1, hg.size⟩) fun ex a2 w2 hq => hq.lift k1
  rw [look_cons] at hx
  split at hx
  · rename_i e1; subst e1; cases hx
    have hr := hg.env t _ hl
    generalize a.tmps.getD t undef = v at hr
    cases hr with
    | ref _ _ blk' hb' =>
      rw [q1] at hb'; cases hb'
      refine .t _ _ (.ptr _ _ cs (fun i => vs.getD i undef) hone' (fun i x hx => ⟨?_, ?_⟩) (fun i x hx => ?_))
      · rintro (ho | ho)
        · exact ho.1.2 q1
        · exact hi.dis _ _ q2 ho
      · have hlt : i < vs.size := by rw [q4, liftT_len]; exact get_of_lt hx
        simp [World.cell?, q3, hlt]
      · have hlt : i < vs.size := by rw [q4, liftT_len]; exact get_of_lt hx
        have hv : vs[i]? = some (vs.getD i undef) := by simp [hlt]
        exact (hrel i _ x hv hx).mono k1.keeps
  · rw [frzE_get] at hx
    cases hl' : look env t' with
    | none => simp [hl'] at hx
    | some y => simp [hl'] at hx; subst hx; exact k3 _ _ (hg.env t' y hl')
end Go.Am
/- Hw11 -/
namespace Go.Am
end Go.Am
/- Hw12 -/
namespace Go.Am
section
variable {P : Program} {c : Conf} {n : Nat} {ops : Array Oper} {rest : List Oper} {env : Env} {σ : St} {o : Oper} {k : Env → St → Prop}
/- a loop, round by round -/
def LoopN (P : Program) (n : Nat) (b : Code) (K : Exit → Env → St → Prop) : Nat → Env → St → Prop
  | 0, _, _ => False
  | m + 1, e, s => Tr P n b e s (fun ex e s => match ex with
    | .normal => LoopN P n b K m e s
    | ex => K ex e s)
theorem LoopN.rounds {F : Fence} (hF : IsW F) {b : Code} (hrf : RF F b) {K : Exit → Env → St → Prop} : ∀ (m : Nat) {env : Env} {σ : St} {w : World} {g : G} {a : Act} {w0 : World} {g0 : G}, LoopN P n b K m env σ → Good n w g a env σ → Ext w0 g0 w g → Code.roundsIn F 0 P b (PostH n w0 g0 K) m a w
  | 0, _, _, _, _, _, _, _, h, _, _ => h.elim
  | m + 1, env, σ, w, g, a, w0, g0, h, hg, hx => by
    rw [roundsIn_succ]
    refine wpIn_mono (h F hF hrf w g a hg) ?_
    rintro ex a' w' ⟨env', σ', g', h1, h2, h3⟩
    cases ex with
    | normal => exact LoopN.rounds hF hrf m h3 h2 (hx.trans h1)
    | exit id => exact ⟨env', σ', g', hx.trans h1, h2, h3⟩
    | goto l => exact ⟨env', σ', g', hx.trans h1, h2, h3⟩
    | ret => exact ⟨env', σ', g', hx.trans h1, h2, h3⟩
    | panic ch => exact ⟨env', σ', g', hx.trans h1, h2, h3⟩
    | outgrown => exact ⟨env', σ', g', hx.trans h1, h2, h3⟩
theorem w_unroll {b : Code} {K : Exit → Env → St → Prop} (m : Nat) (h : LoopN P n b K m env σ) : Tr P n (.loop b) env σ K :=
  fun F hF hrf w g a hg => wpIn_loop_rounds m (LoopN.rounds hF hrf.loop m h hg (Ext.refl _ _))
theorem w_again {b : Code} {K : Exit → Env → St → Prop} {m : Nat} (h : Tr P n b env σ (fun ex e s => match ex with
    | .normal => LoopN P n b K m e s
    | ex => K ex e s)) : LoopN P n b K (m + 1) env σ := h
end
end Go.Am
/- Hw13 -/
namespace Go.Am
section
variable {P : Program} {c : Conf} {n : Nat} {ops : Array Oper} {rest : List Oper} {env : Env} {σ : St} {o : Oper} {k : Env → St → Prop}
/- the same ahead of one operation -/
theorem box_frz {w : World} {g : G} {a : Act} (t b : Nat) {cs : List T} (hev : b % 2 = 0) (hl : look env t = some (.ref b 0)) (hb : look σ b = some (.cells (liftT cs))) (hone : cs.all oneT = true) (hi : Inv w g σ) (hge : RelEnv w g a env) :
    ∃ g', Ext w g w g' ∧ Inv w g' (frzS b cs.length [cs] σ) ∧ RelEnv w g' a ((t, .t (.ptr cs)) :: frzE b cs.length [cs] env) := by
  obtain ⟨blk, vs, e, q1, q2, q3, q4, q5⟩ := hi.ok b _ hb
  have hone' : ∀ (i : Nat) x, cs[i]? = some x → oneT x = true := fun i x hx => List.all_eq_true.1 hone x (List.mem_of_getElem? hx)
  have hrel : ∀ (i : Nat) v x, vs[i]? = some v → cs[i]? = some x → RelT w g.M v x := fun i v x hv hx => rel_t_inv (q5 i v (.t x) hv (by rw [liftT_get, hx]; rfl))
  have hi1 : Inv w g (upd σ b (.grow cs.length [cs])) := by
    refine ⟨fun c C hC => ?_, fun c => ?_, hi.inj, hi.lt, fun c hc => ⟨(hi.bx c hc).1, ?_⟩, hi.dis, hi.im, hi.lo, hi.sx.upd b (fun L h => by cases h)⟩
    · rw [look_upd] at hC
      split at hC
      · rename_i e1; subst e1; cases hC
        refine ⟨fun e he => by simp at he; subst he; rfl, .inr ⟨blk, vs, e, q1, q2, q3, ?_, fun i v x hv hx => ?_⟩⟩
        · simp; rw [q4, liftT_len]; exact Nat.le_refl _
        · simp at hx; exact ⟨hone' i x hx, hrel i v x hv hx⟩
      · exact hi.ok c C hC
    · rw [look_upd]
      by_cases e1 : b = c
      · subst e1; simp [q1]
      · simp only [if_neg e1]; exact hi.dom c
    · rw [look_upd]
      have hne : b ≠ c := fun e1 => by subst e1; have := (hi.bx _ hc).1; omega
      simp only [if_neg hne]; exact (hi.bx c hc).2
  obtain ⟨k1, k2, k3⟩ := freeze hi1 (b := b) (sz := cs.length) (es := [cs]) (by rw [look_upd]; simp)
  rw [frzS_upd] at k2
  refine ⟨_, k1, k2, fun t' x hx => ?_⟩
  rw [look_cons] at hx
  split at hx
  · rename_i e1; subst e1; cases hx
    have hr := hge t _ hl
    generalize a.tmps.getD t undef = v at hr
    cases hr with
    | ref _ _ blk' hb' =>
      rw [q1] at hb'; cases hb'
      refine .t _ _ (.ptr _ _ cs (fun i => vs.getD i undef) hone' (fun i x hx => ⟨?_, ?_⟩) (fun i x hx => ?_))
      · rintro (ho | ho)
        · exact ho.1.2 q1
        · exact hi.dis _ _ q2 ho
      · have hlt : i < vs.size := by rw [q4, liftT_len]; exact get_of_lt hx
        simp [World.cell?, q3, hlt]
      · have hlt : i < vs.size := by rw [q4, liftT_len]; exact get_of_lt hx
        have hv : vs[i]? = some (vs.getD i undef) := by simp [hlt]
        exact (hrel i _ x hv hx).mono k1.keeps
  · rw [frzE_get] at hx
    cases hl' : look env t' with
    | none => simp [hl'] at hx
    | some y => simp [hl'] at hx; subst hx; exact k3 _ _ (hge t' y hl')
theorem o_freezeBox (t b : Nat) {cs : List T} (hg : o.guard = none) (hev : b % 2 = 0) (hl : look env t = some (.ref b 0)) (hb : look σ b = some (.cells (liftT cs))) (hone : cs.all oneT = true)
    (h : hOps P n ops (o :: rest) ((t, .t (.ptr cs)) :: frzE b cs.length [cs] env) (frzS b cs.length [cs] σ) k) : hOps P n ops (o :: rest) env σ k := by
  simp only [hOps, wantedH, hg] at h ⊢
  intro w g a hi he
  obtain ⟨g', k1, k2, k3⟩ := box_frz t b hev hl hb hone hi he
  refine (h w g' a k2 k3).mono ?_
  rintro v w' ⟨x, e, s, hp, hk⟩
  exact ⟨x, e, s, hp.lift k1, hk⟩
end
end Go.Am
/- Ax -/
namespace Go.Am
structure DrawOkF (ops : Array Oper) (k m : Nat) : Prop where
  edge : ∀ (i : Nat) o, ops[i]? = some o → ∀ e ∈ o.after, Region.binds .any e = true → e.on < i
  head : ∀ i oi, i < m → ops[i]? = some oi → ∀ j oj, j < i → ops[j]? = some oj → Pre ops j i ∨ oj.apart ops oi = true
  tail : ∀ i, m ≤ i → i < ops.size → ∀ j, k ≤ j → j < i → Pre ops j i
  le : m ≤ ops.size
  km : k ≤ m
/- all of k .. i-1 -/
def bitsFrom (b k : Nat) : Nat → Bool
  | 0 => true
  | i + 1 => (Nat.blt i k || Nat.testBit b i) && bitsFrom b k i
theorem bitsFrom_get {b k : Nat} : ∀ {i : Nat}, bitsFrom b k i = true → ∀ j, k ≤ j → j < i → b.testBit j = true
  | 0, _, j, _, h => by omega
  | i + 1, hb, j, hk, h => by
    simp only [bitsFrom, Bool.and_eq_true, Bool.or_eq_true] at hb
    by_cases e : j = i
    · subst e
      rcases hb.1 with h' | h'
      · have : j < k := by simpa [Nat.blt_eq] using h'
        omega
      · exact h'
    · exact bitsFrom_get hb.2 j hk (by omega)
def tailOkF (ms : List Nat) (k : Nat) : Nat → Nat → Bool
  | _, 0 => true
  | i, l + 1 => bitsFrom (ms.getD i 0) k i && tailOkF ms k (i + 1) l
theorem tailOkF_get {ms : List Nat} {k : Nat} : ∀ {l i0 : Nat}, tailOkF ms k i0 l = true → ∀ i, i < l → bitsFrom (ms.getD (i0 + i) 0) k (i0 + i) = true
  | 0, i0, _, i, h => by omega
  | l + 1, i0, hb, i, h => by
    simp only [tailOkF, Bool.and_eq_true] at hb
    cases i with
    | zero => exact hb.1
    | succ i => have := tailOkF_get hb.2 i (by omega); rwa [show i0 + 1 + i = i0 + (i + 1) by omega] at this
def tailAtF (ms : List Nat) (k : Nat) : Nat → Nat
  | 0 => 0
  | i + 1 => match bitsFrom (ms.getD i 0) k i && Nat.ble k i with
    | true => tailAtF ms k i
    | false => i + 1
/- how many moves it begins with -/
def movesN : List Oper → Nat
  | [] => 0
  | o :: r => match o.guard with
    | none => (match o.op with
      | .move _ => movesN r + 1
      | _ => 0)
    | some _ => 0
def takeOk (ops : Array Oper) : List Nat → Array Bool → Bool
  | [], _ => true
  | i :: r, l => (Region.free .any ops l i && (Region.ready .any ops l).contains i) && takeOk ops r (l.setIfInBounds i true)
def drawF (ops : Array Oper) (k : Nat) : Option Nat :=
  let ms := masks ops.toList []
  let m := tailAtF ms k ops.size
  match edgesOk 0 ops.toList && (headOk ops ms (ops.toList.take m) 0 (ops.toList.take m) && (tailOkF ms k m (ops.size - m) && (Nat.ble k m && (Nat.ble m ops.size && (Region.noSelect ops && (takeOk ops (List.range k) (Array.replicate ops.size false) && Nat.ble k (movesN ops.toList))))))) with
  | true => some m
  | false => none
theorem movesN_get : ∀ {l : List Oper} {i : Nat}, i < movesN l → ∃ o x, l[i]? = some o ∧ o.guard = none ∧ o.op = .move x
  | [], i, h => by simp [movesN] at h
  | o :: r, i, h => by
    unfold movesN at h
    split at h
    · rename_i hg
      split at h
      · rename_i x hx
        cases i with
        | zero => exact ⟨o, x, rfl, hg, hx⟩
        | succ i => simpa using movesN_get (l := r) (i := i) (by omega)
      · omega
    · omega
section
variable {P : Program} {c : Conf} {n k m : Nat} {ops : Array Oper} {news : List Nat}
theorem drawF_ok (h : drawF ops k = some m) : DrawOkF ops k m ∧ Region.noSelect ops = true ∧ takeOk ops (List.range k) (Array.replicate ops.size false) = true ∧ k ≤ movesN ops.toList := by
  unfold drawF at h
  simp only at h
  split at h
  · rename_i hb
    simp at h
    simp only [Bool.and_eq_true] at hb
    obtain ⟨h1, h2, h3, h4, h5, h6, h7, h8⟩ := hb
    rw [h] at h2 h3 h4 h5
    refine ⟨⟨fun i o ho e he hbi => ?_, fun i oi hi hoi j oj hj hoj => ?_, fun i hi hsz j hk hj => ?_, by simpa using h5, by simpa using h4⟩, h6, h7, by simpa using h8⟩
    · have := edgesOk_get h1 i o (by rw [Array.getElem?_toList]; exact ho) e he hbi; omega
    · have := headOk_get h2 i oi (by rw [List.getElem?_take, if_pos hi, Array.getElem?_toList]; exact hoi)
      have := allBitsOr_get this j oj (by rw [List.getElem?_take, if_pos (by omega), List.getElem?_take, if_pos (by omega), Array.getElem?_toList]; exact hoj)
      simp only [Nat.zero_add] at this
      rcases this with h' | h'
      · exact .inl (masks_get _ _ h')
      · exact .inr h'
    · have := tailOkF_get h3 (i - m) (by omega)
      rw [show m + (i - m) = i by omega] at this
      exact masks_get _ _ (bitsFrom_get this j hk hj)
  · simp at h
theorem tailF_sound {F : Fence} (hF : IsW F) (hD : DrawOkF ops k m) {K : Exit → Env → St → Prop} {w0 : World} {g0 : G} : ∀ (fuel i0 : Nat) {listed : Array Bool} {w : World} {g : G} {a : Act} {env : Env} {σ : St},
    m ≤ i0 → i0 ≤ ops.size → listed.size = ops.size → (∀ i, i < ops.size → (Li listed i ↔ i < i0)) → ops.size - i0 ≤ fuel → hOps P n ops (ops.toList.drop i0) env σ (K .normal) → Good n w g a env σ → Ext w0 g0 w g →
    wpAnyIn F 0 P .any ops (PostH n w0 g0 K) fuel listed a w := by
  intro fuel
  induction fuel with
  | zero =>
    intro i0 listed w g a env σ h1 h2 hs hl hf h hg hx
    have : i0 = ops.size := by omega
    subst this
    have hready : Region.ready .any ops listed = [] := by
      apply List.eq_nil_iff_forall_not_mem.2
      intro i hi
      rw [ready_iff hs] at hi
      obtain ⟨hn, o, ho, _⟩ := hi
      have hi' : i < ops.size := by
        rcases Nat.lt_or_ge i ops.size with h | h
        · exact h
        · rw [Array.getElem?_eq_none h] at ho; cases ho
      exact hn ((hl i hi').2 hi')
    rw [List.drop_of_length_le (by simp)] at h
    exact ⟨hready, env, σ, g, hx, hg, h⟩
  | succ fuel ih =>
    intro i0 listed w g a env σ h1 h2 hs hl hf h hg hx
    by_cases hend : i0 = ops.size
    · subst hend
      rw [List.drop_of_length_le (by simp)] at h
      refine ⟨fun _ => ⟨env, σ, g, hx, hg, h⟩, fun i hi => ?_⟩
      rw [ready_iff hs] at hi
      obtain ⟨hn, o, ho, _⟩ := hi
      have hi' : i < ops.size := by
        rcases Nat.lt_or_ge i ops.size with h | h
        · exact h
        · rw [Array.getElem?_eq_none h] at ho; cases ho
      exact absurd ((hl i hi').2 hi') hn
    · have hlt : i0 < ops.size := by omega
      have ho : ops[i0]? = some ops[i0] := Array.getElem?_eq_getElem hlt
      have hrdy : ∀ o, ops[i0]? = some o → ∀ e ∈ o.after, Region.binds .any e = true → Li listed e.on := fun o ho' e he hb => by
        have := hD.edge i0 o ho' e he hb
        exact (hl _ (by omega)).2 this
      have hin : i0 ∈ Region.ready .any ops listed := by
        rw [ready_iff hs]
        exact ⟨fun hc => by have := (hl i0 hlt).1 hc; omega, ops[i0], ho, hrdy _ ho⟩
      refine ⟨fun hnil => by rw [hnil] at hin; simp at hin, fun i hi => ?_⟩
      rw [ready_iff hs] at hi
      obtain ⟨hn, o, ho', hr'⟩ := hi
      have hisz : i < ops.size := by
        rcases Nat.lt_or_ge i ops.size with h | h
        · exact h
        · rw [Array.getElem?_eq_none h] at ho'; cases ho'
      have hdc : DC ops listed := by
        intro j oj hoj hlj e he hb
        have hj : j < ops.size := by
          rcases Nat.lt_or_ge j ops.size with h | h
          · exact h
          · rw [Array.getElem?_eq_none h] at hoj; cases hoj
        have h1 := (hl j hj).1 hlj
        have h2 := hD.edge j oj hoj e he hb
        exact (hl _ (by omega)).2 (by omega)
      have hieq : i = i0 := by
        rcases Nat.lt_trichotomy i i0 with h' | h' | h'
        · exact absurd ((hl i hisz).2 h') hn
        · exact h'
        · have hpre := hD.tail i (by omega) hisz i0 (by have := hD.km; omega) h'
          have := pre_ready hdc hpre (fun o2 ho2 => by rw [ho'] at ho2; cases ho2; exact hr')
          have := (hl i0 hlt).1 this
          omega
      subst hieq
      rw [ho'] at ho; cases ho
      have hdrop : ops.toList.drop i = ops[i] :: ops.toList.drop (i + 1) := by
        rw [List.drop_eq_getElem_cons (by simpa using hlt)]; simp
      rw [hdrop] at h
      simp only [hOps] at h
      have hl' : ∀ j, j < ops.size → (Li (listed.setIfInBounds i true) j ↔ j < i + 1) := by
        intro j hj
        rw [Li_set (by omega), hl j hj]; omega
      refine wpOp_of hF ho' ?_
      rcases wanted_ok hg h with ⟨hw, env0, h, hg⟩ | ⟨hw, env0, h, hg⟩
      · refine .inl ⟨hw, ?_⟩
        refine h w g a hg.inv hg.env F hF _ _ ?_
        rintro v w' ⟨x, e1, s1, ⟨g', k1, k2, k3, k4⟩, e2, hput, h⟩
        exact ih (i + 1) (by omega) (by omega) (by simp [hs]) hl' (by omega) h (put_good hput ⟨k4, k3, hg.defers.ext k1, hg.size⟩ k2) (hx.trans k1)
      · refine .inr ⟨hw, ?_⟩
        obtain ⟨e2, hput, h⟩ := h
        exact ih (i + 1) (by omega) (by omega) (by simp [hs]) hl' (by omega) h (put_good hput hg (.t _ _ .undef)) hx
theorem headF_sound {F : Fence} (hF : IsW F) (hp : ProgOk P c) (hD : DrawOkF ops k m) {K : Exit → Env → St → Prop} {w0 : World} {g0 : G} {e : Env} {s : St} (htl : hOps P n ops (ops.toList.drop m) e s (K .normal)) :
    ∀ (fuel : Nat) {listed : Array Bool} {rem : List Nat} {w : World} {g : G} {a : Act} {env : Env} {σ : St}, listed.size = ops.size → DC ops listed → (∀ j, j < k → Li listed j) → (∀ i, m ≤ i → i < ops.size → ¬ Li listed i) →
    (∀ i, i ∈ rem ↔ i < m ∧ ¬ Li listed i) → rem.Pairwise (· < ·) → rem.length + (ops.size - m) ≤ fuel → Runs P c noAlt n ops news rem env σ e s → Good n w g a env σ → Ext w0 g0 w g →
    wpAnyIn F 0 P .any ops (PostH n w0 g0 K) fuel listed a w := by
  intro fuel
  induction fuel with
  | zero =>
    intro listed rem w g a env σ hs hdc hkl hhi hrem hsort hf hruns hg hx
    have hnil : rem = [] := List.eq_nil_of_length_eq_zero (by omega)
    subst hnil
    refine tailF_sound hF hD 0 m (Nat.le_refl _) hD.le hs (fun i hi => ⟨fun h => ?_, fun h => ?_⟩) (by omega) htl (hg.eqv hruns.1 hruns.2) hx
    · exact Classical.byContradiction fun hc => hhi i (by omega) hi h
    · exact Classical.byContradiction fun hc => by have := (hrem i).2 ⟨h, hc⟩; simp at this
  | succ fuel ih =>
    intro listed rem w g a env σ hs hdc hkl hhi hrem hsort hf hruns hg hx
    by_cases hnil : rem = []
    · subst hnil
      refine tailF_sound hF hD (fuel + 1) m (Nat.le_refl _) hD.le hs (fun i hi => ⟨fun h => ?_, fun h => ?_⟩) (by simp at hf; omega) htl (hg.eqv hruns.1 hruns.2) hx
      · exact Classical.byContradiction fun hc => hhi i (by omega) hi h
      · exact Classical.byContradiction fun hc => by have := (hrem i).2 ⟨h, hc⟩; simp at this
    · obtain ⟨i0, rest, rfl⟩ : ∃ i0 rest, rem = i0 :: rest := List.exists_cons_of_ne_nil hnil
      have hm := hD.le
      obtain ⟨hi0, hn0⟩ := (hrem i0).1 (by simp)
      have hmin : ∀ j, j < i0 → Li listed j := fun j hj => Classical.byContradiction fun hc => by
        have := (hrem j).2 ⟨by omega, hc⟩
        simp at this
        rcases this with h' | h'
        · omega
        · have := (List.pairwise_cons.1 hsort).1 j h'; omega
      have ho0 : ops[i0]? = some ops[i0] := Array.getElem?_eq_getElem (by omega)
      have hin : i0 ∈ Region.ready .any ops listed := by
        rw [ready_iff hs]
        exact ⟨hn0, ops[i0], ho0, fun e he hb => hmin _ (hD.edge i0 _ ho0 e he hb)⟩
      refine ⟨fun hnil => by rw [hnil] at hin; simp at hin, fun i hi => ?_⟩
      rw [ready_iff hs] at hi
      obtain ⟨hn, o, ho, hr⟩ := hi
      have hisz : i < ops.size := by
        rcases Nat.lt_or_ge i ops.size with h | h
        · exact h
        · rw [Array.getElem?_eq_none h] at ho; cases ho
      have hr' : ∀ o2, ops[i]? = some o2 → ∀ e ∈ o2.after, Region.binds .any e = true → Li listed e.on := fun o2 ho2 => by rw [ho] at ho2; cases ho2; exact hr
      have him : i < m := Classical.byContradiction fun hc => hn0 (pre_ready hdc (hD.tail i (by omega) hisz i0 (Nat.le_of_not_lt fun h => hn0 (hkl i0 h)) (by omega)) hr')
      have himem : i ∈ i0 :: rest := (hrem i).2 ⟨him, hn⟩
      obtain ⟨l1, l2, hsplit⟩ := List.append_of_mem himem
      rw [hsplit] at hruns hsort hrem hf
      have hlt : ∀ j ∈ l1, j < i := fun j hj => (List.pairwise_append.1 hsort).2.2 j hj i (by simp)
      have hgt : ∀ j ∈ l2, i < j := fun j hj => (List.pairwise_cons.1 (List.pairwise_append.1 hsort).2.1).1 j hj
      have hb := bubble noAlt_ok ho (l1 := l1) (l2 := l2) (fun j hj => by
        obtain ⟨hjm, hjn⟩ := (hrem j).1 (by simp [hj])
        have hoj : ops[j]? = some ops[j] := Array.getElem?_eq_getElem (by omega)
        refine ⟨ops[j], hoj, ?_⟩
        rcases hD.head i o him ho j ops[j] (hlt j hj) hoj with h' | h'
        · exact absurd (pre_ready hdc h' hr') hjn
        · exact h') hruns
      obtain ⟨o2, y, nb, e1, s1, q1, q2, q3, q4, q5⟩ := hb
      rw [ho] at q1; cases q1
      have hrem' : ∀ j, j ∈ l1 ++ l2 ↔ j < m ∧ ¬ Li (listed.setIfInBounds i true) j := by
        intro j
        rw [Li_set (by omega)]
        have hj := hrem j
        constructor
        · intro hmem
          have hne : j ≠ i := by
            rcases List.mem_append.1 hmem with h' | h'
            · have := hlt j h'; omega
            · have := hgt j h'; omega
          have := hj.1 (by rcases List.mem_append.1 hmem with h' | h' <;> simp [h'])
          exact ⟨this.1, fun hc => by rcases hc with h' | h'; exact hne h'; exact this.2 h'⟩
        · rintro ⟨h1, h2⟩
          have hne : j ≠ i := fun e => h2 (.inl e)
          have := hj.2 ⟨h1, fun hc => h2 (.inr hc)⟩
          simp at this ⊢
          rcases this with h' | h' | h'
          · exact .inl h'
          · exact absurd h' hne
          · exact .inr h'
      have hsort' : (l1 ++ l2).Pairwise (· < ·) := by
        refine List.pairwise_append.2 ⟨(List.pairwise_append.1 hsort).1, (List.pairwise_cons.1 (List.pairwise_append.1 hsort).2.1).2, fun x hx y hy => ?_⟩
        have := hlt x hx; have := hgt y hy; omega
      have hhi' : ∀ j, m ≤ j → j < ops.size → ¬ Li (listed.setIfInBounds i true) j := fun j hj hjs hc => by
        rw [Li_set (by omega)] at hc
        rcases hc with h' | h'
        · omega
        · exact hhi j hj hjs h'
      have hcont : ∀ {w' : World} {g' : G} {a' : Act} {env' : Env} {σ' : St}, (∀ t, look env' t = look e1 t) → (∀ b, look σ' b = look s1 b) → Good n w' g' a' env' σ' → Ext w0 g0 w' g' →
          wpAnyIn F 0 P .any ops (PostH n w0 g0 K) fuel (listed.setIfInBounds i true) a' w' := by
        intro w' g' a' env' σ' he1 hs1 hg1 hx1
        exact ih (by simp [hs]) (hdc.set (by omega) hr') (fun j hj => (Li_set (by omega)).2 (.inr (hkl j hj))) hhi' hrem' hsort' (by simp at hf ⊢; omega) (q5.congr noAlt_ok (fun t => (he1 t).symm) (fun b => (hs1 b).symm)) hg1 hx1
      have hputg : ∀ {w' : World} {g' : G} {v : Value} {σ' : St}, Good n w' g' a env σ' → Rel w' g' v y → (∀ b, look σ' b = look s1 b) → Ext w0 g0 w' g' →
          wpAnyIn F 0 P .any ops (PostH n w0 g0 K) fuel (listed.setIfInBounds i true) (a.put o.dst v) w' := by
        intro w' g' v σ' hg1 hrel hs1 hx1
        cases hd : o.dst with
        | none =>
          refine hcont (env' := env) (fun t => ?_) hs1 hg1 hx1
          rw [q4.1 t, hd]; simp
        | some d =>
          have hlt := q3.1 d hd
          have hput : putV n (some d) y env = some ((d, y) :: env) := by
            simp only [putV]
            have : Nat.blt d n = true := by simpa [Nat.blt_eq] using hlt
            rw [this]
          refine hcont (env' := (d, y) :: env) (fun t => ?_) hs1 (put_good hput hg1 hrel) hx1
          rw [q4.1 t, hd, look_cons]; simp
      refine wpOp_of hF ho ?_
      rcases q3.2 with ⟨_, hal, _⟩ | ⟨hw, cf, hcf, hst⟩ | ⟨hw, hy, hnb⟩
      · exact hal.elim
      · refine .inl ⟨wantB_ok hg hw, ?_⟩
        refine still_sound hp hcf hg.inv hg.env hst F hF _ _ ?_
        rintro v w' ⟨g', k1, k2, k3, k4⟩
        exact hputg (σ' := nb ++ σ) ⟨k4, k3, hg.defers.ext k1, hg.size⟩ k2 (fun b => (q4.2 b).symm) (hx.trans k1)
      · refine .inr ⟨wantB_ok hg hw, ?_⟩
        subst hy; subst hnb
        exact hputg (σ' := σ) hg (.t _ _ .undef) (fun b => (q4.2 b).symm) hx
def takeEnv (n : Nat) (ops : Array Oper) : List Nat → Env → Option Env
  | [], e => some e
  | i :: r, e => match ops[i]? with
    | some o => (match o.op with
      | .move x => (match ev e x with
        | some y => (match putV n o.dst y e with
          | some e2 => takeEnv n ops r e2
          | none => none)
        | none => none)
      | _ => none)
    | none => none
def setAll : List Nat → Array Bool → Array Bool
  | [], l => l
  | i :: r, l => setAll r (l.setIfInBounds i true)
theorem setAll_size : ∀ (fl : List Nat) (l : Array Bool), (setAll fl l).size = l.size
  | [], _ => rfl
  | i :: r, l => by simp [setAll, setAll_size r]
theorem setAll_Li : ∀ (fl : List Nat) (l : Array Bool) (j : Nat), (∀ i ∈ fl, i < l.size) → (Li (setAll fl l) j ↔ j ∈ fl ∨ Li l j)
  | [], l, j, _ => by simp [setAll]
  | i :: r, l, j, h => by
    rw [setAll, setAll_Li r _ j (fun x hx => by simp; exact h x (by simp [hx])), Li_set (h i (by simp))]
    simp only [List.mem_cons]
    constructor
    · rintro (h' | h' | h')
      · exact .inl (.inr h')
      · exact .inl (.inl h')
      · exact .inr h'
    · rintro ((h' | h') | h')
      · exact .inr (.inl h')
      · exact .inl h'
      · exact .inr (.inr h')
theorem setAll_DC : ∀ (fl : List Nat) (l : Array Bool), l.size = ops.size → takeOk ops fl l = true → DC ops l → DC ops (setAll fl l)
  | [], l, _, _, h => h
  | i :: r, l, hs, ht, h => by
    simp only [takeOk, Bool.and_eq_true] at ht
    have hr := (ready_iff hs).1 (List.contains_iff_mem.1 ht.1.2)
    obtain ⟨_, o, ho, hr⟩ := hr
    have hi : i < ops.size := by
      rcases Nat.lt_or_ge i ops.size with h | h
      · exact h
      · rw [Array.getElem?_eq_none h] at ho; cases ho
    exact setAll_DC r _ (by simp [hs]) ht.2 (h.set (by omega) (fun o2 ho2 => by rw [ho] at ho2; cases ho2; exact hr))
theorem take_sound {F : Fence} (hro : F.round = none) (hs : Region.noSelect ops = true) {K : Exit → Env → St → Prop} (hK : ∀ ch e s, ¬ K (.panic ch) e s) {w0 : World} {g0 : G} {fuel : Nat} {w : World} {g : G} {env' : Env} {σ : St} : ∀ (fl : List Nat) {listed : Array Bool} {a : Act} {env : Env},
    takeOk ops fl listed = true → (∀ i ∈ fl, ∃ o x, ops[i]? = some o ∧ o.guard = none ∧ o.op = .move x) → takeEnv n ops fl env = some env' → Good n w g a env σ →
    (∀ a', Good n w g a' env' σ → wpAnyIn F 0 P .any ops (PostH n w0 g0 K) fuel (setAll fl listed) a' w) → wpAnyIn F 0 P .any ops (PostH n w0 g0 K) (fuel + fl.length) listed a w
  | [], listed, a, env, _, _, he, hg, h => by simp [takeEnv] at he; subst he; exact h a hg
  | i :: r, listed, a, env, ht, hm, he, hg, h => by
    obtain ⟨o, x, ho, hgd, hx⟩ := hm i (by simp)
    simp only [takeOk, Bool.and_eq_true] at ht
    simp only [takeEnv, ho, hx] at he
    cases hy : ev env x with
    | none => rw [hy] at he; simp at he
    | some y =>
      rw [hy] at he
      simp only at he
      cases hp : putV n o.dst y env with
      | none => rw [hp] at he; simp at he
      | some e2 =>
        rw [hp] at he
        simp only at he
        have hg2 := put_good hp hg (ev_rel hg.env hy)
        refine wpAnyIn_take (fuel := fuel + r.length) (v := a.eval x) hro ho hs ht.1.1 ht.1.2 ?_ ⟨.inl ⟨by simp [Region.wanted, hgd], fun w => by simp [execOp, hx]⟩, fun w => by simp [Oper.about, hx]⟩ ?_
        · rintro ch a1 w1 ⟨e1, s1, g1, _, _, hk⟩; exact absurd hk (hK _ _ _)
        · exact take_sound hro hs hK r ht.2 (fun j hj => hm j (by simp [hj])) he hg2 h
theorem regF_sound (hp : ProgOk P c) {id : Nat} {env env' : Env} {σ : St} {K : Exit → Env → St → Prop} (hd : drawF ops k = some m) (ha : hasApp ops.toList = true) (hK : ∀ ch e s, ¬ K (.panic ch) e s) (hte : takeEnv n ops (List.range k) env = some env')
    (h : hSK P c n ops (newsOf ((ops.toList.take m).drop k)) ((ops.toList.take m).drop k) env' σ (fun env σ => hOps P n ops (ops.toList.drop m) env σ (K .normal))) : Tr P n (.region id ops true) env σ K := by
  intro F hF hrf w g a hg
  obtain ⟨hD, hns, htk, hmv⟩ := drawF_ok hd
  have hro : F.round = none := by
    rcases hrf with h | h
    · exact h
    · simp [noRF, ha] at h
  have hlen : ops.toList.length = ops.size := by simp
  have hle := hD.le
  have hkm := hD.km
  obtain ⟨e, s, h1, h2⟩ := hSK_runs ((ops.toList.take m).drop k) k (fun j hj => by
    rw [List.getElem?_drop, List.getElem?_take, if_pos (by simp at hj; omega), Array.getElem?_toList]) (fun o ho => newsOf_mem ho) h
  refine wpIn_region_any hp.mix ?_
  have hsz : ops.size = (ops.size - k) + (List.range k).length := by simp; omega
  rw [hsz, ← hsz]
  rw [show wpAnyIn F 0 P .any ops (PostH n w g K) ops.size = wpAnyIn F 0 P .any ops (PostH n w g K) ((ops.size - k) + (List.range k).length) by rw [← hsz]]
  refine take_sound hro hns hK (List.range k) htk (fun i hi => ?_) hte hg.drew (fun a' hg' => ?_)
  · obtain ⟨o, x, ho, q1, q2⟩ := movesN_get (l := ops.toList) (i := i) (by simp at hi; omega)
    exact ⟨o, x, by rw [Array.getElem?_toList] at ho; exact ho, q1, q2⟩
  · have hin : ∀ i ∈ List.range k, i < (Array.replicate ops.size false).size := fun i hi => by simp at hi ⊢; omega
    have hLi : ∀ j, Li (setAll (List.range k) (Array.replicate ops.size false)) j ↔ j < k := fun j => by
      rw [setAll_Li _ _ _ hin]; simp [Li, Array.getElem?_replicate]
    have hrl : (List.range' k ((ops.toList.take m).drop k).length) = List.range' k (m - k) := by congr 1; simp; omega
    rw [hrl] at h1
    refine headF_sound hF hp hD h2 (ops.size - k) (by rw [setAll_size]; simp) (setAll_DC _ _ (by simp) htk (fun i o ho hl => by simp [Li, Array.getElem?_replicate] at hl)) (fun j hj => (hLi j).2 hj) (fun i hi _ hl => by have := (hLi i).1 hl; omega) (fun i => ?_) List.pairwise_lt_range' (by simp; omega) h1 hg' (Ext.drew w g)
    rw [hLi, List.mem_range'_1]; omega
end
end Go.Am
