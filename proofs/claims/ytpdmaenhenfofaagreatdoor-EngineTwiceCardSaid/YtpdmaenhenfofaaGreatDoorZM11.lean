/- Contracts and laws, joined: Bc, Bd, Be, Bf, Bg, Bh, Bi, Bj. No condition beside those that each theorem names. -/
import Derived.Test.YtpdmaenhenfofaaGreatDoorZM10
set_option linter.unusedVariables false
set_option linter.unusedSimpArgs false
namespace Go.Am
def SubT (x y : T) : Prop := (oneT x = true → oneT y = true) ∧ ∀ w M v, RelT w M v x → RelT w M v y
def SubTs : List T → List T → Prop
  | [], [] => True
  | x :: r, y :: s => SubT x y ∧ SubTs r s
  | _, _ => False
def SubTss : List (List T) → List (List T) → Prop
  | [], [] => True
  | x :: r, y :: s => SubTs x y ∧ SubTss r s
  | _, _ => False
theorem SubT.refl (x : T) : SubT x x := ⟨id, fun _ _ _ h => h⟩
theorem SubT.any {m : SM} {sz : Nat} {es : List (List T)} : SubT (.slice m sz es) (.slice .any sz es) := ⟨fun _ => rfl, fun _ _ _ h => sub_sliceT h⟩
theorem SubT.nil {m : SM} {sz sz' : Nat} : SubT (.slice m sz []) (.slice .any sz' []) := ⟨fun _ => rfl, fun _ _ _ h => sub_nilT h⟩
theorem SubT.sub {x y : T} (h : SubT x y) : Sub (.t x) (.t y) := fun _ _ _ hr => .t _ _ (h.2 _ _ _ (rel_t_inv hr))
theorem SubTs.refl : ∀ l : List T, SubTs l l
  | [] => trivial
  | x :: r => ⟨SubT.refl x, SubTs.refl r⟩
theorem SubTss.refl : ∀ l : List (List T), SubTss l l
  | [] => trivial
  | x :: r => ⟨SubTs.refl x, SubTss.refl r⟩
theorem SubTs.len : ∀ {a b : List T}, SubTs a b → a.length = b.length
  | [], [], _ => rfl
  | x :: r, y :: s, h => by simp [SubTs.len h.2]
  | [], _ :: _, h => h.elim
  | _ :: _, [], h => h.elim
theorem SubTs.get : ∀ {a b : List T}, SubTs a b → ∀ (i : Nat) y, b[i]? = some y → ∃ x, a[i]? = some x ∧ SubT x y
  | [], [], _, i, y, hy => by simp at hy
  | x :: r, z :: s, h, 0, y, hy => by simp at hy; subst hy; exact ⟨x, rfl, h.1⟩
  | x :: r, z :: s, h, i + 1, y, hy => by
    obtain ⟨u, h1, h2⟩ := SubTs.get h.2 i y (by simpa using hy)
    exact ⟨u, by simpa using h1, h2⟩
  | [], _ :: _, h, _, _, _ => h.elim
  | _ :: _, [], h, _, _, _ => h.elim
theorem SubTs.app : ∀ {a b c d : List T}, SubTs a b → SubTs c d → SubTs (a ++ c) (b ++ d)
  | [], [], _, _, _, h => h
  | x :: r, y :: s, _, _, h1, h2 => ⟨h1.1, SubTs.app h1.2 h2⟩
  | [], _ :: _, _, _, h, _ => h.elim
  | _ :: _, [], _, _, h, _ => h.elim
theorem SubTss.flat : ∀ {a b : List (List T)}, SubTss a b → a.length = b.length ∧ SubTs a.flatten b.flatten ∧ ∀ sz, (∀ e ∈ a, e.length = sz) → ∀ e ∈ b, e.length = sz
  | [], [], _ => ⟨rfl, trivial, fun _ _ _ h => by simp at h⟩
  | x :: r, y :: s, h => by
    obtain ⟨h1, h2, h3⟩ := SubTss.flat h.2
    refine ⟨by simp [h1], by simpa using h.1.app h2, fun sz hs e he => ?_⟩
    rcases List.mem_cons.1 he with rfl | he
    · rw [← h.1.len]; exact hs x (by simp)
    · exact h3 sz (fun z hz => hs z (by simp [hz])) e he
  | [], _ :: _, h => h.elim
  | _ :: _, [], h => h.elim
theorem SubT.slice {m : SM} {sz : Nat} {es es' : List (List T)} (h : SubTss es es') : SubT (.slice m sz es) (.slice .any sz es') := by
  obtain ⟨h1, h2, h3⟩ := h.flat
  refine ⟨fun _ => rfl, fun w M v hr => ?_⟩
  cases hr with
  | sliceNil =>
    cases es' with
    | nil => exact .sliceNil _ _
    | cons => simp at h1
  | sliceZ a _ _ hm =>
    cases es' with
    | nil => exact .sliceZ a _ _ (by simp)
    | cons => simp at h1
  | slice b off len cap _ _ _ vs hl hc hf hm hp hsz hone hcell hrel =>
    refine .slice b off len cap .any sz es' vs (by omega) hc (fun h => by cases h) (by simp) (fun _ _ h => by cases h) (h3 sz hsz) (fun i y hy => ?_) (fun i y hy => ?_) (fun i y hy => ?_)
    · obtain ⟨x, q1, q2⟩ := h2.get i y hy; exact q2.1 (hone i x q1)
    · obtain ⟨x, q1, q2⟩ := h2.get i y hy; exact hcell i x q1
    · obtain ⟨x, q1, q2⟩ := h2.get i y hy; exact q2.2 _ _ _ (hrel i x q1)
theorem sub_sl {m : SM} {sz : Nat} {es es' : List (List T)} (h : SubTss es es') : Sub (.t (.slice m sz es)) (.t (.slice .any sz es')) := (SubT.slice h).sub
end Go.Am

namespace Go.Am
def isSt : Op → Bool
  | .store _ _ _ => true
  | _ => false
def stAlt (so xo : Operand) (s0 x0 : AV) : Oper → Env → Prop := fun o env => isSt o.op = true ∧ so ∈ o.op.operands ∧ xo ∈ o.op.operands ∧ ev env so = some s0 ∧ ev env xo = some x0
theorem stAlt_ok {ops : Array Oper} {so xo : Operand} {s0 x0 : AV} : AltOk ops (stAlt so xo s0 x0) := fun o env env' h ⟨h1, h2, h3, h4, h5⟩ =>
  ⟨h1, h2, h3, by rw [← ev_looks h so h2]; exact h4, by rw [← ev_looks h xo h3]; exact h5⟩
section
variable {P : Program} {c : Conf} {n m : Nat} {ops : Array Oper} {news : List Nat}
theorem still_st_none {cf : Nat → List AV → St → Option (AV × St)} {o : Oper} {env : Env} {σ : St} (h : isSt o.op = true) : stillV c cf news o env σ = none := by
  cases ho : o.op with
  | store t p x => unfold stillV; rw [ho]
  | _ => rw [ho] at h; simp [isSt] at h
theorem store_does (hp : ProgOk P c) {op : Oper} {t : Nat} {so xo : Operand} {s0 x0 : AV} {lab off : Nat} {cs : List AV} {B1 : Blk} (ho : op.op = .store t so xo) (hs0 : s0 = .ref lab off) (hsv : ∀ σ, look σ lab = some (.cells cs) → storeV c.te t s0 x0 σ = some (upd σ lab B1))
    {w : World} {g : G} {a : Act} {env : Env} {σ : St} (hi : Inv w g σ) (he : RelEnv w g a env) (h1 : ev env so = some s0) (h2 : ev env xo = some x0) (h3 : look σ lab = some (.cells cs)) : Does P op a w (fun v w' => ∃ g', Ext w g w' g' ∧ Rel w' g' v .top ∧ RelEnv w' g' a env ∧ Inv w' g' (upd σ lab B1)) := by
  obtain ⟨w', q1, q2, q3, q4⟩ := store_sound hp.te hi (ev_rel he h1) (ev_rel he h2) (hsv σ h3)
  exact Does.skip (w' := w') (by simp [execOp, ho, q1]) ⟨g, q2, .top _, he.mono q4, q3⟩
theorem storeV_at {te : TE} {t lab off : Nat} {ti : TI} {x0 : AV} {ys cs : List AV} (ht : look te t = some ti) (hy : cellsA x0 = some ys) (hl : ys.length = ti.size) (hle : Nat.ble (off + ti.size) cs.length = true) : ∀ σ, look σ lab = some (.cells cs) → storeV te t (.ref lab off) x0 σ = some (upd σ lab (.cells (setR cs off ys))) := by
  intro σ h
  have hle' : off + ti.size ≤ cs.length := by simpa using hle
  unfold storeV
  simp only [ht, hy, hl, if_true, h, hle']
end
end Go.Am

namespace Go.Am
def predsOk (done : List Nat) : List Edge → Bool
  | [] => true
  | e :: r => (!Region.binds .any e || mem1 e.on done) && predsOk done r
def readyGo (done : List Nat) : Nat → List Oper → List Nat
  | _, [] => []
  | i, o :: r => bif (!mem1 i done && predsOk done o.after.toList) then i :: readyGo done (i + 1) r else readyGo done (i + 1) r
def readyN (ops : Array Oper) (done : List Nat) : List Nat := readyGo done 0 ops.toList
theorem predsOk_iff {done : List Nat} : ∀ {l : List Edge}, predsOk done l = true ↔ ∀ e ∈ l, Region.binds .any e = true → e.on ∈ done
  | [] => by simp [predsOk]
  | e :: r => by
    simp only [predsOk, Bool.and_eq_true, Bool.or_eq_true, Bool.not_eq_true', List.mem_cons, predsOk_iff (l := r), mem1_iff]
    constructor
    · rintro ⟨h1, h2⟩ x (rfl | hx) hb
      · rcases h1 with h1 | h1
        · rw [h1] at hb; cases hb
        · exact h1
      · exact h2 x hx hb
    · intro h
      refine ⟨?_, fun x hx => h x (.inr hx)⟩
      cases hb : Region.binds .any e with
      | false => exact .inl rfl
      | true => exact .inr (h e (.inl rfl) hb)
theorem readyGo_iff {done : List Nat} : ∀ {l : List Oper} {k i : Nat}, i ∈ readyGo done k l ↔ k ≤ i ∧ ∃ o, l[i - k]? = some o ∧ i ∉ done ∧ ∀ e ∈ o.after, Region.binds .any e = true → e.on ∈ done
  | [], k, i => by simp [readyGo]
  | o :: r, k, i => by
    have key : (!mem1 k done && predsOk done o.after.toList) = true ↔ k ∉ done ∧ ∀ e ∈ o.after, Region.binds .any e = true → e.on ∈ done := by
      simp only [Bool.and_eq_true, Bool.not_eq_true', predsOk_iff, Array.mem_toList_iff]
      refine and_congr ?_ Iff.rfl
      rw [← mem1_iff (l := done)]; simp
    have hstep : (i ∈ readyGo done (k + 1) r) ↔ k + 1 ≤ i ∧ ∃ o2, (o :: r)[i - k]? = some o2 ∧ i ∉ done ∧ ∀ e ∈ o2.after, Region.binds .any e = true → e.on ∈ done := by
      rw [readyGo_iff]
      refine and_congr_right fun h => ?_
      rw [show i - k = (i - (k + 1)) + 1 by omega, List.getElem?_cons_succ]
    simp only [readyGo]
    cases hc : (!mem1 k done && predsOk done o.after.toList) with
    | true =>
      obtain ⟨h1, h2⟩ := key.1 hc
      simp only [cond_true, List.mem_cons, hstep]
      constructor
      · rintro (rfl | ⟨h3, h4⟩)
        · exact ⟨Nat.le_refl _, o, by simp, h1, h2⟩
        · exact ⟨by omega, h4⟩
      · rintro ⟨h3, h4⟩
        by_cases e : i = k
        · exact .inl e
        · exact .inr ⟨by omega, h4⟩
    | false =>
      simp only [cond_false, hstep]
      constructor
      · rintro ⟨h3, h4⟩; exact ⟨by omega, h4⟩
      · rintro ⟨h3, o2, h4, h5, h6⟩
        by_cases e : i = k
        · subst e
          simp at h4; subst h4
          rw [key.2 ⟨h5, h6⟩] at hc; cases hc
        · exact ⟨by omega, o2, h4, h5, h6⟩
theorem readyN_iff {ops : Array Oper} {done : List Nat} {i : Nat} : i ∈ readyN ops done ↔ ∃ o, ops[i]? = some o ∧ i ∉ done ∧ ∀ e ∈ o.after, Region.binds .any e = true → e.on ∈ done := by
  unfold readyN
  rw [readyGo_iff]
  simp
section
variable {P : Program} {c : Conf} {n m : Nat} {ops : Array Oper}
def hAny (P : Program) (n : Nat) (ops : Array Oper) : Nat → List Nat → Env → St → (Env → St → Prop) → Prop
  | 0, done, env, σ, K => readyN ops done = [] ∧ K env σ
  | f + 1, done, env, σ, K => (readyN ops done = [] → K env σ) ∧ ∀ i ∈ readyN ops done, ∃ o, ops[i]? = some o ∧ hOps P n ops [o] env σ (fun env σ => hAny P n ops f (i :: done) env σ K)
theorem any_sound {F : Fence} (hF : IsW F) {K : Exit → Env → St → Prop} {w0 : World} {g0 : G} : ∀ (fuel : Nat) {done : List Nat} {listed : Array Bool} {w : World} {g : G} {a : Act} {env : Env} {σ : St},
    listed.size = ops.size → (∀ j, Li listed j ↔ j ∈ done) → hAny P n ops fuel done env σ (K .normal) → Good n w g a env σ → Ext w0 g0 w g → wpAnyIn F 0 P .any ops (PostH n w0 g0 K) fuel listed a w := by
  have hrdy : ∀ {done : List Nat} {listed : Array Bool}, listed.size = ops.size → (∀ j, Li listed j ↔ j ∈ done) → ∀ i, i ∈ Region.ready .any ops listed ↔ i ∈ readyN ops done := fun {done} {listed} hs hl i => by
    rw [ready_iff hs, readyN_iff]
    constructor
    · rintro ⟨h1, o, h2, h3⟩
      exact ⟨o, h2, fun hc => h1 ((hl i).2 hc), fun e he hb => (hl _).1 (h3 e he hb)⟩
    · rintro ⟨o, h2, h1, h3⟩
      exact ⟨fun hc => h1 ((hl i).1 hc), o, h2, fun e he hb => (hl _).2 (h3 e he hb)⟩
  intro fuel
  induction fuel with
  | zero =>
    intro done listed w g a env σ hs hl h hg hx
    obtain ⟨h1, h2⟩ := h
    refine ⟨?_, env, σ, g, hx, hg, h2⟩
    rw [List.eq_nil_iff_forall_not_mem]
    intro i hi
    rw [hrdy hs hl, h1] at hi
    simp at hi
  | succ fuel ih =>
    intro done listed w g a env σ hs hl h hg hx
    obtain ⟨h1, h2⟩ := h
    refine ⟨fun hnil => ⟨env, σ, g, hx, hg, h1 ?_⟩, fun i hi => ?_⟩
    · rw [List.eq_nil_iff_forall_not_mem]
      intro i hi
      rw [← hrdy hs hl, hnil] at hi
      simp at hi
    · obtain ⟨o, ho, h⟩ := h2 i ((hrdy hs hl i).1 hi)
      have hlt : i < ops.size := (Array.getElem?_eq_some_iff.1 ho).1
      have hl' : ∀ j, Li (listed.setIfInBounds i true) j ↔ j ∈ i :: done := fun j => by
        rw [Li_set (by omega), hl j, List.mem_cons]
      simp only [hOps] at h
      refine wpOp_of hF ho ?_
      rcases wanted_ok hg h with ⟨hw, env0, h, hg⟩ | ⟨hw, env0, h, hg⟩
      · refine .inl ⟨hw, ?_⟩
        refine h w g a hg.inv hg.env F hF _ _ ?_
        rintro v w' ⟨x, e1, s1, ⟨g', k1, k2, k3, k4⟩, e2, hput, h⟩
        exact ih (by simp [hs]) hl' h (put_good hput ⟨k4, k3, hg.defers.ext k1, hg.size⟩ k2) (hx.trans k1)
      · refine .inr ⟨hw, ?_⟩
        obtain ⟨e2, hput, h⟩ := h
        exact ih (by simp [hs]) hl' h (put_good hput hg (.t _ _ .undef)) hx
theorem w_regAny (hp : ProgOk P c) {id f : Nat} {env env' : Env} {σ σ' : St} {K : Exit → Env → St → Prop} (hf : ops.size = f) (hz : regFrz ops env σ = (env', σ')) (h : hAny P n ops f [] env' σ' (K .normal)) : Tr P n (.region id ops true) env σ K := by
  subst hf
  intro F hF hrf w g0 a hg0
  obtain ⟨g, hx, hg⟩ := regFrz_sound hz hg0
  refine wpIn_mono ?_ fun ex a2 w2 (hq : PostH n w g K ex a2 w2) => hq.lift hx
  refine wpIn_region_any hp.mix ?_
  exact any_sound hF ops.size (by simp) (fun j => by simp [Li, Array.getElem?_replicate]) h hg.drew (Ext.drew w g)
theorem any_0 {f : Nat} {done : List Nat} {env : Env} {σ : St} {K : Env → St → Prop} (hr : readyN ops done = []) (h : K env σ) : hAny P n ops f done env σ K := by
  cases f with
  | zero => exact ⟨hr, h⟩
  | succ f => exact ⟨fun _ => h, fun i hi => by rw [hr] at hi; simp at hi⟩
theorem any_1 {f i : Nat} {o : Oper} {done : List Nat} {env : Env} {σ : St} {K : Env → St → Prop} (hr : readyN ops done = [i]) (ho : ops[i]? = some o) (h : hOps P n ops [o] env σ (fun env σ => hAny P n ops f (i :: done) env σ K)) : hAny P n ops (f + 1) done env σ K :=
  ⟨fun hc => (by rw [hr] at hc; cases hc), fun j hj => by rw [hr] at hj; simp at hj; subst hj; exact ⟨o, ho, h⟩⟩
theorem any_2 {f i j : Nat} {o o2 : Oper} {done : List Nat} {env : Env} {σ : St} {K : Env → St → Prop} (hr : readyN ops done = [i, j]) (ho : ops[i]? = some o) (ho2 : ops[j]? = some o2) (h : hOps P n ops [o] env σ (fun env σ => hAny P n ops f (i :: done) env σ K)) (h2 : hOps P n ops [o2] env σ (fun env σ => hAny P n ops f (j :: done) env σ K)) : hAny P n ops (f + 1) done env σ K :=
  ⟨fun hc => (by rw [hr] at hc; cases hc), fun k hk => by
    rw [hr] at hk; simp at hk
    rcases hk with rfl | rfl
    · exact ⟨o, ho, h⟩
    · exact ⟨o2, ho2, h2⟩⟩
end
end Go.Am

namespace Go.Am
section
variable {P : Program} {c : Conf} {n : Nat} {ops : Array Oper} {rest : List Oper} {env : Env} {σ : St} {o : Oper} {K : Exit → Env → St → Prop} {k : Env → St → Prop}
theorem o_frzP (t b ρ : Nat) {sz : Nat} {es : List (List T)} {L : List Rt} {y : AV} (y' : Nat → Nat → AV) (L' : Nat → Nat → List Rt) (hg : o.guard = none) (hb : look σ b = some (.grow sz es)) (hρ : look σ ρ = some (.rights L)) (hne : es ≠ []) (hy : look env t = some y)
    (hps : ∀ blk N, PS b sz es blk N y (y' blk N)) (hL : ∀ blk N, (∀ q ∈ L, q.1 ≠ blk) → ((L' blk N).map Prod.fst).Nodup ∧ ∀ q ∈ L' blk N, q = (blk, N, es.length * sz) ∨ q ∈ L)
    (h : ∀ blk N, (∀ q ∈ L, q.1 ≠ blk) → hOps P n ops (o :: rest) ((t, y' blk N) :: frzE b sz es env) (upd (frzS b sz es σ) ρ (.rights (L' blk N))) k) : hOps P n ops (o :: rest) env σ k := by
  simp only [hOps, wantedH, hg] at h ⊢
  intro w g a hi he
  obtain ⟨blk, N, hf, g', k1, k2, k3, k4⟩ := freezeP hi hb hρ hne
  obtain ⟨q1, q2⟩ := hL blk N hf
  refine (h blk N hf w g' a (k2 _ q1 q2) (fun t' x hx => ?_)).mono ?_
  · rw [look_cons] at hx
    split at hx
    · rename_i e; subst e; cases hx; exact hps blk N w g g' k4 k3 _ (he t y hy)
    · rw [frzE_get] at hx
      cases hl : look env t' with
      | none => simp [hl] at hx
      | some z => simp [hl] at hx; subst hx; exact k3 _ _ (he t' z hl)
  · rintro v w' ⟨x, e, s, hp, hk⟩
    exact ⟨x, e, s, hp.lift k1, hk⟩
/- a row's elements, known less well -/
theorem subGrow_inv {w : World} {g : G} (b : Nat) {sz : Nat} {es es' : List (List T)} (hb : look σ b = some (.grow sz es)) (hs : SubTss es es') (hi : Inv w g σ) : Inv w g (upd σ b (.grow sz es')) := by
  obtain ⟨h1, h2, h3⟩ := hs.flat
  obtain ⟨q0, hor⟩ := hi.ok b _ hb
  refine ⟨fun d C hC => ?_, fun d => ?_, hi.inj, hi.lt, fun d hc' => ⟨(hi.bx d hc').1, ?_⟩, hi.dis, hi.im, hi.lo, hi.sx.upd b (fun L h => by cases h)⟩
  · rw [look_upd] at hC
    split at hC
    · rename_i e1; subst e1; cases hC
      refine ⟨h3 sz q0, ?_⟩
      rcases hor with ⟨p1, p2⟩ | ⟨blk, vs, e, p1, p2, p3, p4, p5⟩
      · refine .inl ⟨p1, ?_⟩
        subst p2
        cases es' with
        | nil => rfl
        | cons => simp at h1
      · refine .inr ⟨blk, vs, e, p1, p2, p3, by rw [← h2.len]; exact p4, fun i v x hv hx => ?_⟩
        obtain ⟨y, r1, r2⟩ := h2.get i x hx
        obtain ⟨s1, s2⟩ := p5 i v y hv r1
        exact ⟨r2.1 s1, r2.2 _ _ _ s2⟩
    · exact hi.ok d C hC
  · rw [look_upd]
    by_cases e1 : b = d
    · subst e1; rw [← hi.dom b, hb]; simp
    · simp only [if_neg e1]; exact hi.dom d
  · rw [look_upd]
    split
    · rename_i e1; subst e1
      obtain ⟨cs, hcs⟩ := (hi.bx b hc').2
      rw [hb] at hcs; cases hcs
    · exact (hi.bx d hc').2
theorem Tr.subGrow {code : Code} (b : Nat) {sz : Nat} {es es' : List (List T)} (hb : look σ b = some (.grow sz es)) (hs : SubTss es es') (h : Tr P n code env (upd σ b (.grow sz es')) K) : Tr P n code env σ K := by
  intro F hF hrf w g a hg
  exact h F hF hrf w g a ⟨hg.env, subGrow_inv b hb hs hg.inv, hg.defers, hg.size⟩
/- whatever the code came to: from here on one of these states -/
theorem w_pin {ι : Type} (I : ι → Prop) (E : ι → Env) (S : ι → St) {code code2 : Code} {K2 : Exit → Env → St → Prop} (hK : ∀ e s, Tr P n code2 e s K2 → K .normal e s) (h1 : Tr P n code env σ (fun ex e s => ex = .normal ∧ ∃ i, I i ∧ At (E i) (S i) e s)) (h2 : ∀ i, I i → Tr P n code2 (E i) (S i) K2) : Tr P n code env σ K :=
  h1.mono fun ex e s ⟨he, i, hI, ha⟩ => by
    subst he
    exact hK e s ((h2 i hI).weak ha)
theorem pin_at {ι : Type} {I : ι → Prop} {E : ι → Env} {S : ι → St} {e : Env} {s : St} (i : ι) (hI : I i) (D : List Nat) (h3 : SubEnv (E i) (dropE D e)) (h4 : dropS D s = S i) : Exit.normal = Exit.normal ∧ ∃ i, I i ∧ At (E i) (S i) e s := ⟨rfl, i, hI, D, h3, h4⟩
theorem look_app {α : Type} : ∀ (l r : List (Nat × α)) (b : Nat), look (l ++ r) b = match look l b with
    | some x => some x
    | none => look r b
  | [], r, b => by simp [look]
  | (k, x) :: l, r, b => by
    simp only [List.cons_append, look_cons, look_app l r b]
    split <;> rfl
/- the state's first block, put last -/
theorem Tr.rotS {code : Code} {b : Nat} {B : Blk} {r : St} (hb : look r b = none) (h : Tr P n code env (r ++ [(b, B)]) K) : Tr P n code env ((b, B) :: r) K :=
  Tr.eqS _ (fun d => by
    rw [look_app, look_cons, look_cons]
    by_cases e : b = d
    · subst e; simp [hb]
    · rw [if_neg e, if_neg e]
      cases look r d <;> simp [look]) h
theorem w_sliceR (hp0 : ProgOk P c) {t e s0 b0 b sz rl len esz ebb : Nat} {z0 ez : List T} {ek : TK} {xo : Operand} {lo hi : Option Operand} {l h : Nat} {e2 : Env} (hg : o.guard = none) (ho : o.op = .slice t xo lo hi none) (hx : ev env xo = some (.row b sz rl len)) (ht : look c.te t = some ⟨s0, b0, z0, .slice e⟩) (he : look c.te e = some ⟨esz, ebb, ez, ek⟩) (hsz : esz = sz)
    (hh : boundV env hi len = some h) (hl : boundV env lo 0 = some l) (h1 : h ≤ len) (h2 : l ≤ h) (hp : putV n o.dst (.row b sz (rl + l) (h - l)) env = some e2) (hk : hOps P n ops rest e2 σ k) : hOps P n ops (o :: rest) env σ k := by
  refine w_step hp0 (x := .row b sz (rl + l) (h - l)) (e := env) (s := σ) hg ?_ hp hk
  unfold stepV
  rw [ho]
  simp only [pureV, hx, sliceV, ht, he, hh, hl, if_pos h1, if_pos h2, hsz, if_true]
end
end Go.Am

namespace Go.Am
section
variable {P : Program} {c : Conf} {n : Nat} {ops : Array Oper} {rest : List Oper} {env : Env} {σ : St} {o : Oper} {k : Env → St → Prop} {news : List Nat}
theorem indexR_val {te : TE} {t e s0 b0 b sz lo len esz ebb kc : Nat} {z0 ez : List T} {ek : TK} {kk : IntKind} {nn : Int} (ht : look te t = some ⟨s0, b0, z0, .slice e⟩) (he : look te e = some ⟨esz, ebb, ez, ek⟩) (hsz : esz = sz) (hn : nn = (kc : Int)) (hlt : kc < len) :
    indexAddrV te t (.row b sz lo len) (.t (.int kk nn)) = some (.eref b sz (lo + kc) 0) := by
  subst hn; subst hsz
  unfold indexAddrV
  simp only [natOf_ofNat, ht, he, if_true, if_pos hlt]
theorem w_indexR (hp0 : ProgOk P c) {t e s0 b0 b sz lo len esz ebb kc : Nat} {z0 ez : List T} {ek : TK} {kk : IntKind} {nn : Int} {xo io : Operand} {e2 : Env} (hg : o.guard = none) (ho : o.op = .indexAddr t xo io) (hx : ev env xo = some (.row b sz lo len)) (hi : ev env io = some (.t (.int kk nn)))
    (ht : look c.te t = some ⟨s0, b0, z0, .slice e⟩) (he : look c.te e = some ⟨esz, ebb, ez, ek⟩) (hsz : esz = sz) (hn : nn = (kc : Int)) (hlt : kc < len) (hp : putV n o.dst (.eref b sz (lo + kc) 0) env = some e2) (h : hOps P n ops rest e2 σ k) : hOps P n ops (o :: rest) env σ k := by
  refine w_step hp0 (x := .eref b sz (lo + kc) 0) (e := env) (s := σ) hg ?_ hp h
  unfold stepV
  rw [ho]
  simp only [pureV, hx, hi, indexR_val ht he hsz hn hlt]
theorem s_indexR {t e s0 b0 b sz lo len esz ebb kc : Nat} {z0 ez : List T} {ek : TK} {kk : IntKind} {nn : Int} {xo io : Operand} {e2 : Env} (hg : o.guard = none) (ho : o.op = .indexAddr t xo io) (hx : ev env xo = some (.row b sz lo len)) (hi : ev env io = some (.t (.int kk nn)))
    (ht : look c.te t = some ⟨s0, b0, z0, .slice e⟩) (he : look c.te e = some ⟨esz, ebb, ez, ek⟩) (hsz : esz = sz) (hn : nn = (kc : Int)) (hlt : kc < len) (hp : putV n o.dst (.eref b sz (lo + kc) 0) env = some e2) (h : hSK P c n ops news rest e2 σ k) : hSK P c n ops news (o :: rest) env σ k := by
  refine s_step (x := .eref b sz (lo + kc) 0) (nb := []) hg ?_ rfl hp h
  unfold stillV
  rw [ho]
  simp only [pureV, hx, hi, indexR_val ht he hsz hn hlt]
theorem loadE_val {te : TE} {t b sz kc off : Nat} {ti : TI} {es : List (List T)} {e : List T} {y : T} (ht : look te t = some ti) (hb : look σ b = some (.grow sz es)) (he : es[kc]? = some e) (ha : ti.kind.agg = false) (hy : e[off]? = some y) : loadV te t (.eref b sz kc off) σ = some (.t y) := by
  unfold loadV
  simp only [ht, hb, if_true, he, ha, hy]
theorem w_loadE (hp0 : ProgOk P c) {t b sz kc off : Nat} {ti : TI} {es : List (List T)} {e : List T} {y : T} {xo : Operand} {e2 : Env} (hg : o.guard = none) (ho : o.op = .load t xo) (hx : ev env xo = some (.eref b sz kc off)) (ht : look c.te t = some ti) (hb : look σ b = some (.grow sz es)) (he : es[kc]? = some e) (ha : ti.kind.agg = false) (hy : e[off]? = some y) (hp : putV n o.dst (.t y) env = some e2) (h : hOps P n ops rest e2 σ k) : hOps P n ops (o :: rest) env σ k := by
  refine w_step hp0 (x := .t y) (e := env) (s := σ) hg ?_ hp h
  unfold stepV
  rw [ho]
  simp only [memV, ho, hx, loadE_val ht hb he ha hy]
theorem s_loadE {t b sz kc off : Nat} {ti : TI} {es : List (List T)} {e : List T} {y : T} {xo : Operand} {e2 : Env} (hg : o.guard = none) (ho : o.op = .load t xo) (hx : ev env xo = some (.eref b sz kc off)) (hm : mem1 b news = false) (ht : look c.te t = some ti) (hb : look σ b = some (.grow sz es)) (he : es[kc]? = some e) (ha : ti.kind.agg = false) (hy : e[off]? = some y) (hp : putV n o.dst (.t y) env = some e2) (h : hSK P c n ops news rest e2 σ k) : hSK P c n ops news (o :: rest) env σ k := by
  refine s_step (x := .t y) (nb := []) hg ?_ rfl hp h
  unfold stillV
  rw [ho]
  simp only [hx, loadS, hm, loadE_val ht hb he ha hy]
theorem w_storeE (hp0 : ProgOk P c) {t b sz kc off : Nat} {ti : TI} {es : List (List T)} {e : List T} {y : AV} {ts : List T} {po xo : Operand} {env' e2 : Env} {σ' : St} (hg : o.guard = none) (ho : o.op = .store t po xo) (hz : preFrz o env σ = (env', σ')) (hpo : ev env' po = some (.eref b sz kc off)) (hxo : ev env' xo = some y) (ht : look c.te t = some ti) (hc : cellsA y = some (liftT ts)) (hat : allT (liftT ts) = some ts) (hl : (liftT ts).length = ti.size)
    (hb : look σ' b = some (.grow sz es)) (he : es[kc]? = some e) (hle : Nat.ble (off + ti.size) sz = true) (hp : putV n o.dst (.t .undef) env' = some e2) (h : hOps P n ops rest e2 (upd σ' b (.grow sz (es.set kc (setR e off ts)))) k) : hOps P n ops (o :: rest) env σ k := by
  have hle' : off + ti.size ≤ sz := by simpa using hle
  refine w_step hp0 (x := .t .undef) (e := env') (s := upd σ' b (.grow sz (es.set kc (setR e off ts)))) hg ?_ hp h
  unfold stepV
  rw [ho]
  simp only [hz, memV, ho, hpo, hxo, storeV, ht, hc, hl, hb, if_true, he, hat, if_pos hle']
/- rows lent to a call that hands scalars back: nothing of ours is changed -/
theorem lend_calls {f : Nat} {xs ys : List AV} {r : AV} (h : Ct P f ys [] r []) (hs : scalA r = true) (hl : lendL σ xs = some ys) {vs : List Value} {w : World} {g : G} (hr : RelL w g vs xs) (hi : Inv w g σ) :
    Calls P f vs.toArray w fun e w' => ∃ v, e = .returned v ∧ Ext w g w' g ∧ Rel w' g v r ∧ Inv w' g σ ∧ ∀ v x, Rel w g v x → Rel w' g v x := by
  refine (h.2 vs w (g.lend σ) (lendL_rel hi hl hr) (lend_inv hi)).mono ?_
  rintro e w' ⟨v, g', rfl, hx, hv, hi'⟩
  have hkeep : ∀ blk, blk < w.heap.size → w'.heap[blk]? = w.heap[blk]? := fun blk hb => hx.keep blk hb (fun h => h)
  have hext : Ext w g w' g := ⟨hx.size, fun blk hb _ => hkeep blk hb, fun _ _ h => h, fun _ _ => Iff.rfl, hx.shape, fun _ h => ⟨h, rfl⟩, ⟨rfl, hx.lo.2⟩, spKeep (fun _ _ _ _ h => h) (fun blk e hb _ _ => hkeep blk hb)⟩
  have hmono : ∀ v x, Rel w g v x → Rel w' g v x := fun v x hr => hr.mono hext.keeps (fun _ _ h => h) hx.shape
  refine ⟨v, rfl, hext, scalA_any hv hs, ⟨fun b B hB => ?_, hi.dom, hi.inj, fun blk hb => Nat.lt_of_lt_of_le (hi.lt blk hb) hx.size, hi.bx, hi.dis, hi.im_of hext.keeps, Nat.le_trans hi.lo hx.size, hi.sx.mono hx.size rfl (fun _ _ _ h => h) (fun blk e h _ _ => hkeep blk (hi.sx.lt _ _ h)) (fun c blk h => .inl ⟨c, h⟩) (fun _ _ h => h)⟩, hmono⟩
  have hok := hi.ok b B hB
  refine hok.mono rfl (fun _ _ h => h) (fun blk hb => hkeep _ ?_) hmono
  exact (own_lt hi hb).1
theorem w_callLend (hp0 : ProgOk P c) {cl : Call} {f : Nat} {as ys : List AV} {e2 : Env} {r : AV} (hg : o.guard = none) (ho : o.op = .call cl) (hc : calleeV c env cl = some (f, as)) (hl : lendL σ as = some ys) (hct : Ct P f ys [] r []) (hs : scalA r = true) (hp : putV n o.dst r env = some e2) (h : hOps P n ops rest e2 σ k) : hOps P n ops (o :: rest) env σ k := by
  simp only [hOps, wantedH, hg]
  intro w g a hi hee
  obtain ⟨⟨fn, hf, hb⟩, hca⟩ := id hct
  obtain ⟨vs, hrun, hrel⟩ := callee_sound hp0 hee hc ho hf hb
  refine Does.enter hrun ?_
  refine (lend_calls hct hs hl hrel hi).mono ?_
  rintro ed w' ⟨v, rfl, q1, q2, q3, q4⟩
  exact ⟨v, rfl, _, _, _, ⟨g, q1, q2, q3, hee.mono q4⟩, e2, hp, h⟩
/- first the places fl (moves, places of fields), then order by order -/
def anyF (ops : Array Oper) (fl : List Nat) (f : Nat) : Bool := Region.noSelect ops && (takeOk ops fl (Array.replicate ops.size false) && (hasApp ops.toList && Nat.beq ops.size (f + fl.length)))
theorem w_regAnyF (hp : ProgOk P c) (fl : List Nat) (f : Nat) {id : Nat} {env1 env' : Env} {σ1 : St} {K : Exit → Env → St → Prop} (hd : anyF ops fl f = true) (hz : regFrz ops env σ = (env1, σ1)) (hte : takeEnvG c.te n ops fl env1 = some env') (hK : ∀ ch e s, ¬ K (.panic ch) e s) (h : hAny P n ops f fl env' σ1 (K .normal)) : Tr P n (.region id ops true) env σ K := by
  simp only [anyF, Bool.and_eq_true] at hd
  obtain ⟨hns, htk, ha, hsz⟩ := hd
  have hsz := Nat.eq_of_beq_eq_true hsz
  refine Tr.regFrz env1 σ1 hz ?_
  intro F hF hrf w g a hg
  have hro : F.round = none := by
    rcases hrf with h | h
    · exact h
    · simp [noRF, ha] at h
  have hin : ∀ i ∈ fl, i < (Array.replicate ops.size false).size := fun i hi => by
    have key : ∀ {l : List Nat} {ar : Array Bool}, takeOk ops l ar = true → ∀ i ∈ l, i < ops.size := by
      intro l
      induction l with
      | nil => intro _ _ i hi; simp at hi
      | cons x r ih =>
        intro ar ht i hi
        simp only [takeOk, Bool.and_eq_true] at ht
        rcases List.mem_cons.1 hi with rfl | hi
        · have := List.contains_iff_mem.1 ht.1.2
          unfold Region.ready at this
          rw [List.mem_filter, List.mem_range] at this
          exact this.1
        · exact ih ht.2 i hi
    simpa using key htk i hi
  have hLi : ∀ j, Li (setAll fl (Array.replicate ops.size false)) j ↔ j ∈ fl := fun j => by
    rw [setAll_Li _ _ _ hin]; simp [Li, Array.getElem?_replicate]
  refine wpIn_region_any hp.mix ?_
  rw [show wpAnyIn F 0 P .any ops (PostH n w g K) ops.size = wpAnyIn F 0 P .any ops (PostH n w g K) (f + fl.length) by rw [hsz]]
  refine takeG_sound hp.te hro hns hK fl htk hte hg.drew (fun a' hg' => ?_)
  exact any_sound hF f (by rw [setAll_size]; simp) hLi h hg' (Ext.drew w g)
end
theorem SubTss_set : ∀ {l l' : List (List T)} {k : Nat} {x y : List T}, SubTss l l' → l'[k]? = some y → SubTs x y → SubTss (l.set k x) l'
  | [], [], k, x, y, _, h, _ => by simp at h
  | a :: r, b :: s, 0, x, y, h, hk, hx => by simp at hk; subst hk; exact ⟨hx, h.2⟩
  | a :: r, b :: s, k + 1, x, y, h, hk, hx => ⟨h.1, SubTss_set h.2 (by simpa using hk) hx⟩
  | [], _ :: _, _, _, _, h, _, _ => h.elim
  | _ :: _, [], _, _, _, h, _, _ => h.elim
end Go.Am

namespace Go.Am
section
variable {P : Program} {c : Conf} {n m : Nat} {ops : Array Oper} {news : List Nat}
theorem headN_sound {F : Fence} (hF : IsW F) (hp : ProgOk P c) (hD : DrawOk ops m) {K : Exit → Env → St → Prop} {w0 : World} {g0 : G} {e : Env} {s : St} {p lab : Nat} {op : Oper} {so xo : Operand} {s0 x0 : AV} {B0 B1 : Blk}
    (hs0 : ∃ off, s0 = .ref lab off) (hop : ops[p]? = some op) (hpm : p < m) (hd : op.dst = none) (hgd : op.guard = none) (hst0 : isSt op.op = true) (hrn : lab ∈ news)
    (hsolo : ∀ i o, i < m → ops[i]? = some o → i ≠ p → isSt o.op = false)
    (hcr : ∀ i o, i < m → ops[i]? = some o → i ≠ p → lab ∈ newLab o → Pre ops i p ∧ ∀ cf env σ y nb, stillV c cf news o env σ = some (y, nb) → nb = [(lab, B0)])
    (hdo : ∀ {w : World} {g : G} {a : Act} {env : Env} {σ : St}, Inv w g σ → RelEnv w g a env → ev env so = some s0 → ev env xo = some x0 → look σ lab = some B0 → Does P op a w (fun v w' => ∃ g', Ext w g w' g' ∧ Rel w' g' v .top ∧ RelEnv w' g' a env ∧ Inv w' g' (upd σ lab B1)))
    (htl : hOps P n ops (ops.toList.drop m) e (upd s lab B1) (K .normal)) :
    ∀ (fuel : Nat) {listed : Array Bool} {rem : List Nat} {w : World} {g : G} {a : Act} {env : Env} {σ : St}, listed.size = ops.size → DC ops listed → (∀ i, m ≤ i → i < ops.size → ¬ Li listed i) →
    (∀ i, i ∈ rem ↔ i < m ∧ ¬ Li listed i) → rem.Pairwise (· < ·) → rem.length + (ops.size - m) ≤ fuel → Runs P c (stAlt so xo s0 x0) n ops news rem env σ e s → (look σ lab = some B0 ∨ (look σ lab = none ∧ ¬ Li listed p)) →
    (¬ Li listed p → Good n w g a env σ) → (Li listed p → Good n w g a env (upd σ lab B1)) → Ext w0 g0 w g →
    wpAnyIn F 0 P .any ops (PostH n w0 g0 K) fuel listed a w := by
  intro fuel
  induction fuel with
  | zero =>
    intro listed rem w g a env σ hs hdc hhi hrem hsort hf hruns hρ hg1 hg2 hx
    have hnil : rem = [] := List.eq_nil_of_length_eq_zero (by omega)
    subst hnil
    have hpl : Li listed p := Classical.byContradiction fun hc => by have := (hrem p).2 ⟨hpm, hc⟩; simp at this
    have hg := hg2 hpl
    have hgs : Good n w g a e (upd s lab B1) := hg.eqv (fun t => hruns.1 t) (fun b => by rw [look_upd, look_upd, hruns.2 b])
    refine tail_sound hF hD 0 m (Nat.le_refl _) hD.le hs (fun i hi => ⟨fun h => ?_, fun h => ?_⟩) (by omega) htl hgs hx
    · exact Classical.byContradiction fun hc => hhi i (by omega) hi h
    · exact Classical.byContradiction fun hc => by have := (hrem i).2 ⟨h, hc⟩; simp at this
  | succ fuel ih =>
    intro listed rem w g a env σ hs hdc hhi hrem hsort hf hruns hρ hg1 hg2 hx
    by_cases hnil : rem = []
    · subst hnil
      have hpl : Li listed p := Classical.byContradiction fun hc => by have := (hrem p).2 ⟨hpm, hc⟩; simp at this
      have hg := hg2 hpl
      have hgs : Good n w g a e (upd s lab B1) := hg.eqv (fun t => hruns.1 t) (fun b => by rw [look_upd, look_upd, hruns.2 b])
      refine tail_sound hF hD (fuel + 1) m (Nat.le_refl _) hD.le hs (fun i hi => ⟨fun h => ?_, fun h => ?_⟩) (by simp at hf; omega) htl hgs hx
      · exact Classical.byContradiction fun hc => hhi i (by omega) hi h
      · exact Classical.byContradiction fun hc => by have := (hrem i).2 ⟨h, hc⟩; simp at this
    · obtain ⟨i0, rest, rfl⟩ : ∃ i0 rest, rem = i0 :: rest := List.exists_cons_of_ne_nil hnil
      have hm := hD.le
      obtain ⟨hi0, hn0⟩ := (hrem i0).1 (by simp)
      have hmin : ∀ j, j < i0 → Li listed j := fun j hj => Classical.byContradiction fun hc => by
        have := (hrem j).2 ⟨by omega, hc⟩
        simp at this
        rcases this with h' | h'
        · omega
        · have := (List.pairwise_cons.1 hsort).1 j h'; omega
      have ho0 : ops[i0]? = some ops[i0] := Array.getElem?_eq_getElem (by omega)
      have hin : i0 ∈ Region.ready .any ops listed := by
        rw [ready_iff hs]
        exact ⟨hn0, ops[i0], ho0, fun e he hb => hmin _ (hD.edge i0 _ ho0 e he hb)⟩
      refine ⟨fun hnil => by rw [hnil] at hin; simp at hin, fun i hi => ?_⟩
      rw [ready_iff hs] at hi
      obtain ⟨hn, o, ho, hr⟩ := hi
      have hisz : i < ops.size := by
        rcases Nat.lt_or_ge i ops.size with h | h
        · exact h
        · rw [Array.getElem?_eq_none h] at ho; cases ho
      have hr' : ∀ o2, ops[i]? = some o2 → ∀ e ∈ o2.after, Region.binds .any e = true → Li listed e.on := fun o2 ho2 => by rw [ho] at ho2; cases ho2; exact hr
      have him : i < m := Classical.byContradiction fun hc => hn0 (pre_ready hdc (hD.tail i (by omega) hisz i0 (by omega)) hr')
      have himem : i ∈ i0 :: rest := (hrem i).2 ⟨him, hn⟩
      obtain ⟨l1, l2, hsplit⟩ := List.append_of_mem himem
      rw [hsplit] at hruns hsort hrem hf
      have hlt : ∀ j ∈ l1, j < i := fun j hj => (List.pairwise_append.1 hsort).2.2 j hj i (by simp)
      have hgt : ∀ j ∈ l2, i < j := fun j hj => (List.pairwise_cons.1 (List.pairwise_append.1 hsort).2.1).1 j hj
      have hb := bubble stAlt_ok ho (l1 := l1) (l2 := l2) (fun j hj => by
        obtain ⟨hjm, hjn⟩ := (hrem j).1 (by simp [hj])
        have hoj : ops[j]? = some ops[j] := Array.getElem?_eq_getElem (by omega)
        refine ⟨ops[j], hoj, ?_⟩
        rcases hD.head i o him ho j ops[j] (hlt j hj) hoj with h' | h'
        · exact absurd (pre_ready hdc h' hr') hjn
        · exact h') hruns
      obtain ⟨o2, y, nb, e1, s1, q1, q2, q3, q4, q5⟩ := hb
      rw [ho] at q1; cases q1
      have hrem' : ∀ j, j ∈ l1 ++ l2 ↔ j < m ∧ ¬ Li (listed.setIfInBounds i true) j := by
        intro j
        rw [Li_set (by omega)]
        have hj := hrem j
        constructor
        · intro hmem
          have hne : j ≠ i := by
            rcases List.mem_append.1 hmem with h' | h'
            · have := hlt j h'; omega
            · have := hgt j h'; omega
          have := hj.1 (by rcases List.mem_append.1 hmem with h' | h' <;> simp [h'])
          exact ⟨this.1, fun hc => by rcases hc with h' | h'; exact hne h'; exact this.2 h'⟩
        · rintro ⟨h1, h2⟩
          have hne : j ≠ i := fun e => h2 (.inl e)
          have := hj.2 ⟨h1, fun hc => h2 (.inr hc)⟩
          simp at this ⊢
          rcases this with h' | h' | h'
          · exact .inl h'
          · exact absurd h' hne
          · exact .inr h'
      have hsort' : (l1 ++ l2).Pairwise (· < ·) := by
        refine List.pairwise_append.2 ⟨(List.pairwise_append.1 hsort).1, (List.pairwise_cons.1 (List.pairwise_append.1 hsort).2.1).2, fun x hx y hy => ?_⟩
        have := hlt x hx; have := hgt y hy; omega
      have hhi' : ∀ j, m ≤ j → j < ops.size → ¬ Li (listed.setIfInBounds i true) j := fun j hj hjs hc => by
        rw [Li_set (by omega)] at hc
        rcases hc with h' | h'
        · omega
        · exact hhi j hj hjs h'
      have hes : (∀ t, o.dst ≠ some t → look e1 t = look env t) := fun t ht => by rw [q4.1 t, if_neg ht]
      have hρL : Li listed p → look σ lab = some B0 := fun hl => hρ.elim id fun h => absurd hl h.2
      have hcrL : lab ∈ newLab o → i ≠ p → ¬ Li listed p := fun hl hne hp => hn (pre_ready hdc (hcr i o him ho hne hl).1 (fun o2 ho2 e he hb => hdc p o2 ho2 hp e he hb))
      have hρp : i = p → look σ lab = some B0 := fun hip => by
        subst hip
        rw [hop] at ho; cases ho
        have hg := hg1 hn
        obtain ⟨off, rfl⟩ := hs0
        have hal : ev env so = some (.ref lab off) := by
          rcases q3.2 with ⟨_, h1, _⟩ | ⟨_, cf, _, h3⟩ | ⟨h1, _⟩
          · exact h1.2.2.2.1
          · rw [still_st_none hst0] at h3; cases h3
          · unfold wantB at h1; rw [hgd] at h1; cases h1
        have hr := ev_rel hg.env hal
        have hsome : (look σ lab).isSome = true := by
          rw [hg.inv.dom lab]
          generalize a.eval so = v at hr
          cases hr with
          | ref _ _ blk hb => rw [hb]; rfl
        rcases hρ with h | ⟨h, _⟩
        · exact h
        · rw [h] at hsome; cases hsome
      have hρ1 : look s1 lab = some B0 ∨ (look s1 lab = none ∧ ¬ Li (listed.setIfInBounds i true) p) := by
        rw [q4.2]
        have keep : look σ lab = some B0 → look (nb ++ σ) lab = some B0 := fun hs1 => by
          rcases q3.new with hnb | ⟨d, B, hd1, hnb, _, hnone⟩
          · subst hnb; exact hs1
          · rw [look_app_new hnb]
            have hne : 2 * d ≠ lab := fun e => by rw [e, hs1] at hnone; cases hnone
            rw [if_neg hne]; exact hs1
        rcases hρ with hs1 | ⟨hs1, hs2⟩
        · exact .inl (keep hs1)
        · by_cases hip : i = p
          · exact .inl (keep (hρp hip))
          · have hnl : ¬ Li (listed.setIfInBounds i true) p := fun hc => by
              rw [Li_set (by omega)] at hc
              rcases hc with h' | h'
              · exact hip h'.symm
              · exact hs2 h'
            rcases q3.2 with ⟨_, h1, _, h3⟩ | ⟨_, cf, _, h3⟩ | ⟨_, _, h3⟩
            · have := hsolo i o him ho hip; rw [h1.1] at this; cases this
            · by_cases hl : lab ∈ newLab o
              · have := (hcr i o him ho hip hl).2 _ _ _ _ _ h3
                subst this
                exact .inl (by rw [List.singleton_append, look_cons, if_pos rfl])
              · rcases stillV_new h3 with hnb | ⟨d, B, hd1, hnb, hl2, _⟩
                · subst hnb; exact .inr ⟨hs1, hnl⟩
                · refine .inr ⟨?_, hnl⟩
                  rw [look_app_new hnb]
                  have hne : 2 * d ≠ lab := fun e => hl (by rw [hl2]; simp [e])
                  rw [if_neg hne]; exact hs1
            · subst h3; exact .inr ⟨hs1, hnl⟩
      have hnext : ∀ {w' : World} {g' : G} {a' : Act}, (¬ Li (listed.setIfInBounds i true) p → Good n w' g' a' e1 s1) → (Li (listed.setIfInBounds i true) p → Good n w' g' a' e1 (upd s1 lab B1)) → Ext w0 g0 w' g' →
          wpAnyIn F 0 P .any ops (PostH n w0 g0 K) fuel (listed.setIfInBounds i true) a' w' := fun h1 h2 hx1 =>
        ih (by simp [hs]) (hdc.set (by omega) hr') hhi' hrem' hsort' (by simp at hf ⊢; omega) q5 hρ1 h1 h2 hx1
      refine wpOp_of hF ho ?_
      by_cases hip : i = p
      · /- the append itself -/
        subst hip
        rw [hop] at ho; cases ho
        have hg := hg1 hn
        have hwant : wantB ops op env = some true := by unfold wantB; rw [hgd]
        have halt : stAlt so xo s0 x0 op env ∧ y = .top ∧ nb = [] := by
          rcases q3.2 with ⟨_, h1, h2, h3⟩ | ⟨_, cf, _, h3⟩ | ⟨h1, _⟩
          · exact ⟨h1, h2, h3⟩
          · exfalso; rw [still_st_none hst0] at h3; cases h3
          · rw [hwant] at h1; cases h1
        obtain ⟨⟨_, _, _, hes0, hex0⟩, rfl, rfl⟩ := halt
        refine .inl ⟨wantB_ok hg hwant, ?_⟩
        refine hdo hg.inv hg.env hes0 hex0 (hρp rfl) F hF _ _ ?_
        rintro v w' ⟨g', k1, k2, k3, k4⟩
        refine hnext (fun hc => absurd ((Li_set (by omega)).2 (.inl rfl)) hc) (fun _ => ?_) (hx.trans k1)
        rw [hd]
        have hgp : Good n w' g' a env _ := ⟨k3, k4, hg.defers.ext k1, hg.size⟩
        refine hgp.eqv (fun t => ?_) (fun b => ?_)
        · exact hes t (by rw [hd]; simp)
        · rw [look_upd, look_upd, q4.2 b]; rfl
      · have z2 := hsolo i o him ho hip
        have hLi : Li (listed.setIfInBounds i true) p ↔ Li listed p := by
          rw [Li_set (by omega)]
          exact ⟨fun h => h.elim (fun e => absurd e.symm hip) (fun h => h), .inr⟩
        have hq : (wantB ops o env = some true ∧ ∃ cf, CfOk P cf ∧ stillV c cf news o env σ = some (y, nb)) ∨ (wantB ops o env = some false ∧ y = .t .undef ∧ nb = []) := by
          rcases q3.2 with ⟨_, h1, _⟩ | h | h
          · rw [h1.1] at z2; cases z2
          · exact .inl h
          · exact .inr h
        /- what it does, seen from a state that looks alike where it looks -/
        have step : ∀ {env' : Env} {σ' : St}, (∀ t, look env' t = look env t) → (∀ b, b ≠ lab → look σ' b = look σ b) → (∀ b ∈ newLab o, look σ' b = look σ b) → Good n w g a env' σ' →
            (∀ {w' : World} {g' : G} {a' : Act} {env2 : Env} {σ2 : St}, (∀ t, look env2 t = if o.dst = some t then some y else look env' t) → (∀ b, look σ2 b = look (nb ++ σ') b) → Good n w' g' a' env2 σ2 → Ext w0 g0 w' g' → wpAnyIn F 0 P .any ops (PostH n w0 g0 K) fuel (listed.setIfInBounds i true) a' w') →
            (Region.wanted o (yielded ops a.tmps) = true ∧ o.wpIn F 0 P a w (wpAnyIn F 0 P .any ops (PostH n w0 g0 K) fuel (listed.setIfInBounds i true)) (PostH n w0 g0 K)) ∨ (Region.wanted o (yielded ops a.tmps) = false ∧ wpAnyIn F 0 P .any ops (PostH n w0 g0 K) fuel (listed.setIfInBounds i true) (a.put o.dst undef) w) := by
          intro env' σ' hev hst hnw hg hk
          have hl1 : ∀ t, t ∈ o.looksAt ops → look env t = look env' t := fun t _ => (hev t).symm
          have hputg : ∀ {w' : World} {g' : G} {v : Value} {σ2 : St}, Good n w' g' a env' σ2 → Rel w' g' v y → (∀ b, look σ2 b = look (nb ++ σ') b) → Ext w0 g0 w' g' →
              wpAnyIn F 0 P .any ops (PostH n w0 g0 K) fuel (listed.setIfInBounds i true) (a.put o.dst v) w' := by
            intro w' g' v σ2 hg1 hrel hs1 hx1
            cases hd1 : o.dst with
            | none => exact hk (env2 := env') (fun t => by rw [hd1]; simp) hs1 hg1 hx1
            | some d =>
              have hlt := q3.1 d hd1
              have hput : putV n (some d) y env' = some ((d, y) :: env') := by
                simp only [putV]
                have : Nat.blt d n = true := by simpa [Nat.blt_eq] using hlt
                rw [this]
              exact hk (env2 := (d, y) :: env') (fun t => by rw [hd1, look_cons]; simp) hs1 (put_good hput hg1 hrel) hx1
          rcases hq with ⟨hw, cf, hcf, hst1⟩ | ⟨hw, hy, hnb⟩
          · refine .inl ⟨wantB_ok hg (by rw [← wantB_congr hl1]; exact hw), ?_⟩
            have hst2 : stillV c cf news o env' σ' = some (y, nb) := by
              rw [← stillV_congr (ev_looks hl1) (fun b hb => (hst b (fun e => hb (e ▸ hrn))).symm) (fun b hb => (hnw b hb).symm)]; exact hst1
            refine still_sound hp hcf hg.inv hg.env hst2 F hF _ _ ?_
            rintro v w' ⟨g', k1, k2, k3, k4⟩
            exact hputg (σ2 := nb ++ σ') ⟨k4, k3, hg.defers.ext k1, hg.size⟩ k2 (fun _ => rfl) (hx.trans k1)
          · refine .inr ⟨wantB_ok hg (by rw [← wantB_congr hl1]; exact hw), ?_⟩
            subst hy; subst hnb
            exact hputg (σ2 := σ') hg (.t _ _ .undef) (fun _ => rfl) hx
        have hnbl : Li listed p → ∀ b, b = lab → ∀ σ' : St, look (nb ++ σ') b = look σ' b := fun hlp b hb σ' => by
          rcases q3.new with hnb | ⟨d, B, hd1, hnb, hl, hnone⟩
          · subst hnb; rfl
          · rw [look_app_new hnb]
            have hne : 2 * d ≠ b := fun e => by rw [e, hb, hρL hlp] at hnone; cases hnone
            rw [if_neg hne]
        have hnbo : ∀ b, ∀ σ1 σ2 : St, look σ1 b = look σ2 b → look (nb ++ σ1) b = look (nb ++ σ2) b := fun b σ1 σ2 h => by
          rcases q3.new with hnb | ⟨d, B, hd1, hnb, hl, hnone⟩
          · subst hnb; exact h
          · rw [look_app_new hnb, look_app_new hnb, h]
        by_cases hpl : Li listed p
        · have hg := hg2 hpl
          refine step (env' := env) (σ' := upd σ lab B1) (fun _ => rfl) (fun b hb => by rw [look_upd, if_neg (Ne.symm hb)]) (fun b hb => by rw [look_upd, if_neg (fun e => hcrL (by rw [e]; exact hb) hip hpl)]) hg (fun he2 hs2 hg' hx' => ?_)
          refine hnext (fun hc => absurd (hLi.2 hpl) hc) (fun _ => hg'.eqv (fun t => ?_) (fun b => ?_)) hx'
          · rw [he2 t, q4.1 t]
          · rw [hs2 b, look_upd]
            by_cases e : lab = b
            · rw [if_pos e, hnbl hpl b e.symm, look_upd, if_pos e]
            · rw [if_neg e, q4.2 b]
              exact hnbo b _ _ (by rw [look_upd, if_neg e])
        · have hg := hg1 hpl
          refine step (env' := env) (σ' := σ) (fun _ => rfl) (fun _ _ => rfl) (fun _ _ => rfl) hg (fun he2 hs2 hg' hx' => ?_)
          exact hnext (fun _ => hg'.eqv (fun t => by rw [he2 t, q4.1 t]) (fun b => by rw [hs2 b, q4.2 b])) (fun hc => absurd (hLi.1 hc) hpl) hx'
/- the head's operations beside the store: none is a store; the block is made by q alone, ahead of the store -/
def soloN (p q : Nat) (lab : Nat) : Nat → List Oper → Bool
  | _, [] => true
  | i, o :: r => (Nat.beq i p || (!isSt o.op && (Nat.beq i q || !(newLab o).contains lab))) && soloN p q lab (i + 1) r
theorem soloN_get {p q lab : Nat} : ∀ {l : List Oper} {i0 : Nat}, soloN p q lab i0 l = true → ∀ j o, l[j]? = some o → i0 + j ≠ p → isSt o.op = false ∧ (i0 + j = q ∨ lab ∉ newLab o)
  | [], i0, _, j, o, h, _ => by simp at h
  | x :: r, i0, hb, j, o, h, hne => by
    simp only [soloN, Bool.and_eq_true] at hb
    cases j with
    | zero =>
      simp at h; subst h
      have hb1 := hb.1
      cases hq : Nat.beq i0 p with
      | true => exact absurd (Nat.eq_of_beq_eq_true hq) hne
      | false =>
        simp only [hq, Bool.false_or, Bool.and_eq_true, Bool.not_eq_true', Bool.or_eq_true] at hb1
        refine ⟨hb1.1, hb1.2.elim (fun h => .inl (Nat.eq_of_beq_eq_true h)) (fun h => .inr fun hc => by rw [List.contains_iff_mem.2 hc] at h; cases h)⟩
    | succ j => simp at h; have := soloN_get hb.2 j o h (by omega); rwa [show i0 + 1 + j = i0 + (j + 1) by omega] at this
theorem alloc_new {cf : Nat → List AV → St → Option (AV × St)} {o : Oper} {t d : Nat} {ti : TI} (ho : o.op = .alloc t) (hd : o.dst = some d) (ht : look c.te t = some ti) {env : Env} {σ : St} {y : AV} {nb : St} (h : stillV c cf news o env σ = some (y, nb)) : nb = [(2 * d, .cells (liftT ti.zero))] := by
  unfold stillV at h
  rw [ho] at h
  simp only [hd, ht] at h
  split at h
  · simp at h; exact h.2.symm
  · cases h
def hasEdge (q : Nat) : List Edge → Bool
  | [] => false
  | e :: r => (Nat.beq e.on q && Region.binds .any e) || hasEdge q r
theorem hasEdge_mem {q : Nat} : ∀ {l : List Edge}, hasEdge q l = true → ∃ e ∈ l, e.on = q ∧ Region.binds .any e = true
  | [], h => by simp [hasEdge] at h
  | e :: r, h => by
    simp only [hasEdge, Bool.or_eq_true, Bool.and_eq_true] at h
    rcases h with ⟨h1, h2⟩ | h
    · exact ⟨e, by simp, Nat.eq_of_beq_eq_true h1, h2⟩
    · obtain ⟨e', h1, h2⟩ := hasEdge_mem h; exact ⟨e', by simp [h1], h2⟩
theorem pre_edge {q p : Nat} {op : Oper} (hop : ops[p]? = some op) (h : hasEdge q op.after.toList = true) : Pre ops q p := by
  obtain ⟨e, h1, rfl, h2⟩ := hasEdge_mem h
  exact .one p op e hop (by simpa using h1) h2
/- one store in the head, at place p, into the variable that place q makes -/
theorem w_regSn (hp : ProgOk P c) (p q : Nat) {id d t t' : Nat} {env env' : Env} {σ σ' : St} {K : Exit → Env → St → Prop} {op oq : Oper} {so xo : Operand} {x0 : AV} {ys : List AV} {ti ti' : TI} {l1 l2 l3 : List Oper} {nw : List Nat}
    (hm : drawM ops = some m) (hz : regFrz ops env σ = (env', σ')) (h1 : ops.toList.take p = l1) (h2 : (ops.toList.take m).drop p = op :: l2) (h3 : ops.toList.drop m = l3) (ho : op.op = .store t so xo) (hdst : op.dst = none) (hgd : op.guard = none) (hq : ops[q]? = some oq) (hoq : oq.op = .alloc t') (hdq : oq.dst = some d) (hpe : hasEdge q op.after.toList = true)
    (hsolo : soloN p q (2 * d) 0 (ops.toList.take m) = true) (hn : newsOf (ops.toList.take m) = nw) (hlab : look σ' (2 * d) = none) (ht' : look c.te t' = some ti') (ht : look c.te t = some ti) (hl : ys.length = ti.size) (hlc : Nat.ble ti.size (liftT ti'.zero).length = true)
    (h : hSK P c n ops (2 * d :: nw) l1 env' σ' (fun e1 s1 => ev e1 so = some (.ref (2 * d) 0) ∧ ev e1 xo = some x0 ∧ hSK P c n ops (2 * d :: nw) l2 e1 s1 (fun e s => hOps P n ops l3 e (upd s (2 * d) (.cells (setR (liftT ti'.zero) 0 ys))) (K .normal)))) (hy : cellsA x0 = some ys) :
    Tr P n (.region id ops true) env σ K := by
  subst hn; subst h3
  intro F hF hrf w g0 a hg0
  obtain ⟨g, hx, hg⟩ := regFrz_sound hz hg0
  have hD := drawM_ok hm
  have hle := hD.le
  have hpm : p < m := by
    rcases Nat.lt_or_ge p m with h | h
    · exact h
    · rw [List.drop_of_length_le (by simp; omega)] at h2; cases h2
  have hpl : l1.length = p := by rw [← h1]; simp; omega
  have hsplit : ops.toList.take m = l1 ++ op :: l2 := by
    rw [← h2, ← h1]
    have := (List.take_append_drop p (ops.toList.take m)).symm
    rwa [List.take_take, Nat.min_eq_left (by omega)] at this
  have hml : (ops.toList.take m).length = m := by simp; omega
  have hll : l1.length + (l2.length + 1) = m := by rw [← hml, hsplit]; simp
  have hgl : ∀ j, j < m → (l1 ++ op :: l2)[j]? = ops[j]? := fun j hj => by
    rw [← hsplit, List.getElem?_take, if_pos (by omega), Array.getElem?_toList]
  have hop : ops[p]? = some op := by
    have := hgl l1.length (by omega)
    rw [List.getElem?_append_right (Nat.le_refl _), Nat.sub_self, hpl] at this
    simpa using this.symm
  have hmem : ∀ o, o ∈ l1 ++ op :: l2 → ∀ b ∈ newLab o, b ∈ 2 * d :: newsOf (ops.toList.take m) := fun o ho b hb => List.mem_cons_of_mem _ (newsOf_mem (by rw [hsplit]; exact ho) b hb)
  obtain ⟨e1, s1, r1, v1, v2, h⟩ := hSK_runs (alt := stAlt so xo (.ref (2 * d) 0) x0) l1 0 (fun j hj => by have := hgl j (by omega); rw [List.getElem?_append_left hj] at this; rwa [Nat.zero_add]) (fun o ho => hmem o (by simp [ho])) h
  obtain ⟨e, s, r2, htl⟩ := hSK_runs (alt := stAlt so xo (.ref (2 * d) 0) x0) l2 (p + 1) (fun j hj => by
    have := hgl (l1.length + 1 + j) (by omega)
    rw [List.getElem?_append_right (by omega), show l1.length + 1 + j - l1.length = j + 1 by omega, List.getElem?_cons_succ, show l1.length + 1 + j = p + 1 + j by omega] at this
    exact this) (fun o ho => hmem o (by simp [ho])) h
  have rp : Runs P c (stAlt so xo (.ref (2 * d) 0) x0) n ops (2 * d :: newsOf (ops.toList.take m)) (p :: List.range' (p + 1) l2.length) e1 s1 e s :=
    ⟨op, .top, [], e1, s1, hop, hmem op (by simp), ⟨fun d hd1 => (by rw [hdst] at hd1; cases hd1), .inl ⟨by unfold wantB; rw [hgd], ⟨by rw [ho]; rfl, by simp [ho, Op.operands], by simp [ho, Op.operands], v1, v2⟩, rfl, rfl⟩⟩, ⟨fun t => by rw [hdst]; simp, fun _ => rfl⟩, r2⟩
  have hruns := Runs.app stAlt_ok r1 rp
  have hrl : List.range' 0 l1.length ++ p :: List.range' (p + 1) l2.length = List.range' 0 m := by
    have h1 : p :: List.range' (p + 1) l2.length = List.range' p (l2.length + 1) := by rw [List.range'_succ]
    rw [h1, ← hll, ← List.range'_append_1 (s := 0) (m := l1.length), hpl, Nat.zero_add]
  rw [hrl] at hruns
  refine wpIn_mono ?_ fun ex a2 w2 (hq : PostH n w g K ex a2 w2) => hq.lift hx
  refine wpIn_region_any hp.mix ?_
  have hst := storeV_at (lab := 2 * d) (off := 0) (cs := liftT ti'.zero) ht hy hl (by rw [Nat.zero_add]; exact hlc)
  have solo : ∀ i o, i < m → ops[i]? = some o → i ≠ p → isSt o.op = false ∧ (i = q ∨ 2 * d ∉ newLab o) := fun i o hi ho' hne => by
    have := soloN_get hsolo i o (by rw [List.getElem?_take, if_pos hi, Array.getElem?_toList]; exact ho') (by omega)
    rwa [Nat.zero_add] at this
  refine headN_sound hF hp hD ⟨0, rfl⟩ hop hpm hdst hgd (by rw [ho]; rfl) (by simp) (fun i o hi ho' hne => (solo i o hi ho' hne).1) (fun i o hi ho' hne hl2 => ?_) (fun hi he h1 h2 h3 => store_does hp ho rfl hst hi he h1 h2 h3) htl ops.size (by simp) (fun i o ho hl => by simp [Li, Array.getElem?_replicate] at hl) (fun i _ _ hl => by simp [Li, Array.getElem?_replicate] at hl) (rem := List.range' 0 m) (fun i => by simp [Li, Array.getElem?_replicate, List.mem_range'_1]) List.pairwise_lt_range' (by simp; omega) hruns (.inr ⟨hlab, fun hc => by simp [Li, Array.getElem?_replicate] at hc⟩) (fun _ => hg.drew) (fun hc => by simp [Li, Array.getElem?_replicate] at hc) (Ext.drew w g)
  rcases (solo i o hi ho' hne).2 with rfl | h'
  · rw [hq] at ho'; cases ho'
    exact ⟨pre_edge hop hpe, fun cf env σ y nb h => alloc_new hoq hdq ht' h⟩
  · exact absurd hl2 h'
end
end Go.Am

namespace Go.Am
section
variable {P : Program} {c : Conf} {n : Nat} {ops : Array Oper} {rest : List Oper} {env : Env} {σ : St} {o : Oper} {k : Env → St → Prop} {news : List Nat}
theorem loadEA_val {te : TE} {t b sz kc off : Nat} {ti : TI} {es : List (List T)} {e ys : List T} (ht : look te t = some ti) (hb : look σ b = some (.grow sz es)) (he : es[kc]? = some e) (ha : ti.kind.agg = true) (hy : takeN ti.size (e.drop off) = some ys) : loadV te t (.eref b sz kc off) σ = some (.agg (liftT ys)) := by
  unfold loadV
  simp only [ht, hb, if_true, he, ha, hy]
theorem w_loadEA (hp0 : ProgOk P c) {t b sz kc off : Nat} {ti : TI} {es : List (List T)} {e ys : List T} {xo : Operand} {e2 : Env} (hg : o.guard = none) (ho : o.op = .load t xo) (hx : ev env xo = some (.eref b sz kc off)) (ht : look c.te t = some ti) (hb : look σ b = some (.grow sz es)) (he : es[kc]? = some e) (ha : ti.kind.agg = true) (hy : takeN ti.size (e.drop off) = some ys) (hp : putV n o.dst (.agg (liftT ys)) env = some e2) (h : hOps P n ops rest e2 σ k) : hOps P n ops (o :: rest) env σ k := by
  refine w_step hp0 (x := .agg (liftT ys)) (e := env) (s := σ) hg ?_ hp h
  unfold stepV
  rw [ho]
  simp only [memV, ho, hx, loadEA_val ht hb he ha hy]
theorem lend_rowb {es : List (List T)} {b sz m : Nat} {x : T} (h : look σ b = some (.grow sz es)) (hm : m = es.length) : lendL σ [.row b sz 0 m, .t x] = some [.t (.slice .any sz es), .t x] := by
  subst hm
  have t1 : es.take es.length = es := List.take_of_length_le (Nat.le_refl _)
  have t2 : es.length.ble es.length = true := by simp
  simp [lendL, lendA, h, t1, t2]
end
end Go.Am

namespace Go.Am
section
variable {P : Program} {c : Conf} {n : Nat} {ops : Array Oper} {rest : List Oper} {env : Env} {σ : St} {o : Oper} {k : Env → St → Prop}
theorem o_frzRow (t b : Nat) {sz : Nat} {es : List (List T)} {y y' : AV} (hg : o.guard = none) (hb : look σ b = some (.grow sz es)) (hy : look env t = some y) (hy' : frzA b sz es y = y') (h : hOps P n ops (o :: rest) ((t, y') :: frzE b sz es env) (frzS b sz es σ) k) : hOps P n ops (o :: rest) env σ k := by
  simp only [hOps, wantedH, hg] at h ⊢
  intro w g a hi he
  obtain ⟨k1, k2, k3⟩ := freeze hi hb
  refine (h w _ a k2 (fun t' x hx => ?_)).mono ?_
  · rw [look_cons] at hx
    split at hx
    · rename_i e; subst e; cases hx; rw [← hy']; exact k3 _ _ (he t y hy)
    · rw [frzE_get] at hx
      cases hl : look env t' with
      | none => simp [hl] at hx
      | some z => simp [hl] at hx; subst hx; exact k3 _ _ (he t' z hl)
  · rintro v w' ⟨x, e, s, hp, hk⟩
    exact ⟨x, e, s, hp.lift k1, hk⟩
end
end Go.Am
