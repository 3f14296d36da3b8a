/- Contracts and laws, joined: Bc, Bd, Be, Bf, Bg, Bh, Bi, Bj. No condition beside those that each theorem names. -/
import Derived.Test.YtpdmaenhenfofaaGreatDoorZM10
set_option linter.unusedVariables false
set_option linter.unusedSimpArgs false
namespace Go.Am
def SubT (x y : T) : Prop := (oneT x = true → oneT y = true) ∧ ∀ w M v, RelT w M v x → RelT w M v y
def SubTs : List T → List T → Prop
  | [], [] => True
  | x :: r, y :: s => SubT x y ∧ SubTs r s
  | _, _ => False
def SubTss : List (List T) → List (List T) → Prop
  | [], [] => True
  | x :: r, y :: s => SubTs x y ∧ SubTss r s
  | _, _ => False
theorem SubT.refl (x : T) : SubT x x := ⟨id, fun _ _ _ h => h⟩
theorem SubT.any {m : SM} {sz : Nat} {es : List (List T)} : SubT (.slice m sz es) (.slice .any sz es) := ⟨fun _ => rfl, fun _ _ _ h => sub_sliceT h⟩
theorem SubT.nil {m : SM} {sz sz' : Nat} : SubT (.slice m sz []) (.slice .any sz' []) := ⟨fun _ => rfl, fun _ _ _ h => sub_nilT h⟩
theorem SubT.sub {x y : T} (h : SubT x y) : Sub (.t x) (.t y) := fun _ _ _ hr => .t _ _ (h.2 _ _ _ (rel_t_inv hr))
theorem SubTs.refl : ∀ l : List T, SubTs l l
  | [] => trivial
  | x :: r => ⟨SubT.refl x, SubTs.refl r⟩
theorem SubTss.refl : ∀ l : List (List T), SubTss l l
  | [] => trivial
  | x :: r => ⟨SubTs.refl x, SubTss.refl r⟩
theorem SubTs.len : ∀ {a b : List T}, SubTs a b → a.length = b.length
  | [], [], _ => rfl
  | x :: r, y :: s, h => by simp [SubTs.len h.2]
  | [], _ :: _, h => h.elim
  | _ :: _, [], h => h.elim
theorem SubTs.get : ∀ {a b : List T}, SubTs a b → ∀ (i : Nat) y, b[i]? = some y → ∃ x, a[i]? = some x ∧ SubT x y
  | [], [], _, i, y, hy => by simp at hy
  | x :: r, z :: s, h, 0, y, hy => by simp at hy; subst hy; exact ⟨x, rfl, h.1⟩
  | x :: r, z :: s, h, i + 1, y, hy => by
    obtain ⟨u, h1, h2⟩ := SubTs.get h.2 i y (by simpa using hy)
    exact ⟨u, by simpa using h1, h2⟩
  | [], _ :: _, h, _, _, _ => h.elim
  | _ :: _, [], h, _, _, _ => h.elim
theorem SubTs.app : ∀ {a b c d : List T}, SubTs a b → SubTs c d → SubTs (a ++ c) (b ++ d)
  | [], [], _, _, _, h => h
  | x :: r, y :: s, _, _, h1, h2 => ⟨h1.1, SubTs.app h1.2 h2⟩
  | [], _ :: _, _, _, h, _ => h.elim
  | _ :: _, [], _, _, h, _ => h.elim
theorem SubTss.flat : ∀ {a b : List (List T)}, SubTss a b → a.length = b.length ∧ SubTs a.flatten b.flatten ∧ ∀ sz, (∀ e ∈ a, e.length = sz) → ∀ e ∈ b, e.length = sz
  | [], [], _ => ⟨rfl, trivial, fun _ _ _ h => by simp at h⟩
  | x :: r, y :: s, h => by
    obtain ⟨h1, h2, h3⟩ := SubTss.flat h.2
    refine ⟨by simp [h1], by simpa using h.1.app h2, fun sz hs e he => ?_⟩
    rcases List.mem_cons.1 he with rfl | he
    · rw [← h.1.len]; exact hs x (by simp)
    · exact h3 sz (fun z hz => hs z (by simp [hz])) e he
  | [], _ :: _, h => h.elim
  | _ :: _, [], h => h.elim
theorem SubT.slice {m : SM} {sz : Nat} {es es' : List (List T)} (h : SubTss es es') : SubT (.slice m sz es) (.slice .any sz es') := by
  obtain ⟨h1, h2, h3⟩ := h.flat
  refine ⟨fun _ => rfl, fun w M v hr => ?_⟩
  cases hr with
  | sliceNil =>
    cases es' with
    | nil => exact .sliceNil _ _
    | cons => simp at h1
  | sliceZ a _ _ hm =>
    cases es' with
    | nil => exact .sliceZ a _ _ (by simp)
    | cons => simp at h1
  | slice b off len cap _ _ _ vs hl hc hf hm hp hsz hone hcell hrel =>
    refine .slice b off len cap .any sz es' vs (by omega) hc (fun h => by cases h) (by simp) (fun _ _ h => by cases h) (h3 sz hsz) (fun i y hy => ?_) (fun i y hy => ?_) (fun i y hy => ?_)
    · obtain ⟨x, q1, q2⟩ := h2.get i y hy; exact q2.1 (hone i x q1)
    · obtain ⟨x, q1, q2⟩ := h2.get i y hy; exact hcell i x q1
    · obtain ⟨x, q1, q2⟩ := h2.get i y hy; exact q2.2 _ _ _ (hrel i x q1)
theorem sub_sl {m : SM} {sz : Nat} {es es' : List (List T)} (h : SubTss es es') : Sub (.t (.slice m sz es)) (.t (.slice .any sz es')) := (SubT.slice h).sub
end Go.Am

namespace Go.Am
def predsOk (done : List Nat) : List Edge → Bool
  | [] => true
  | e :: r => (!Region.binds .any e || mem1 e.on done) && predsOk done r
def readyGo (done : List Nat) : Nat → List Oper → List Nat
  | _, [] => []
  | i, o :: r => bif (!mem1 i done && predsOk done o.after.toList) then i :: readyGo done (i + 1) r else readyGo done (i + 1) r
def readyN (ops : Array Oper) (done : List Nat) : List Nat := readyGo done 0 ops.toList
theorem predsOk_iff {done : List Nat} : ∀ {l : List Edge}, predsOk done l = true ↔ ∀ e ∈ l, Region.binds .any e = true → e.on ∈ done
  | [] => by simp [predsOk]
  | e :: r => by
    simp only [predsOk, Bool.and_eq_true, Bool.or_eq_true, Bool.not_eq_true', List.mem_cons, predsOk_iff (l := r), mem1_iff]
    constructor
    · rintro ⟨h1, h2⟩ x (rfl | hx) hb
      · rcases h1 with h1 | h1
        · rw [h1] at hb; cases hb
        · exact h1
      · exact h2 x hx hb
    · intro h
      refine ⟨?_, fun x hx => h x (.inr hx)⟩
      cases hb : Region.binds .any e with
      | false => exact .inl rfl
      | true => exact .inr (h e (.inl rfl) hb)
theorem readyGo_iff {done : List Nat} : ∀ {l : List Oper} {k i : Nat}, i ∈ readyGo done k l ↔ k ≤ i ∧ ∃ o, l[i - k]? = some o ∧ i ∉ done ∧ ∀ e ∈ o.after, Region.binds .any e = true → e.on ∈ done
  | [], k, i => by simp [readyGo]
  | o :: r, k, i => by
    have key : (!mem1 k done && predsOk done o.after.toList) = true ↔ k ∉ done ∧ ∀ e ∈ o.after, Region.binds .any e = true → e.on ∈ done := by
      simp only [Bool.and_eq_true, Bool.not_eq_true', predsOk_iff, Array.mem_toList_iff]
      refine and_congr ?_ Iff.rfl
      rw [← mem1_iff (l := done)]; simp
    have hstep : (i ∈ readyGo done (k + 1) r) ↔ k + 1 ≤ i ∧ ∃ o2, (o :: r)[i - k]? = some o2 ∧ i ∉ done ∧ ∀ e ∈ o2.after, Region.binds .any e = true → e.on ∈ done := by
      rw [readyGo_iff]
      refine and_congr_right fun h => ?_
      rw [show i - k = (i - (k + 1)) + 1 by omega, List.getElem?_cons_succ]
    simp only [readyGo]
    cases hc : (!mem1 k done && predsOk done o.after.toList) with
    | true =>
      obtain ⟨h1, h2⟩ := key.1 hc
      simp only [cond_true, List.mem_cons, hstep]
      constructor
      · rintro (rfl | ⟨h3, h4⟩)
        · exact ⟨Nat.le_refl _, o, by simp, h1, h2⟩
        · exact ⟨by omega, h4⟩
      · rintro ⟨h3, h4⟩
        by_cases e : i = k
        · exact .inl e
        · exact .inr ⟨by omega, h4⟩
    | false =>
      simp only [cond_false, hstep]
      constructor
      · rintro ⟨h3, h4⟩; exact ⟨by omega, h4⟩
      · rintro ⟨h3, o2, h4, h5, h6⟩
        by_cases e : i = k
        · subst e
          simp at h4; subst h4
          rw [key.2 ⟨h5, h6⟩] at hc; cases hc
        · exact ⟨by omega, o2, h4, h5, h6⟩
theorem readyN_iff {ops : Array Oper} {done : List Nat} {i : Nat} : i ∈ readyN ops done ↔ ∃ o, ops[i]? = some o ∧ i ∉ done ∧ ∀ e ∈ o.after, Region.binds .any e = true → e.on ∈ done := by
  unfold readyN
  rw [readyGo_iff]
  simp
section
variable {P : Program} {c : Conf} {n m : Nat} {ops : Array Oper}
def hAny (P : Program) (n : Nat) (ops : Array Oper) : Nat → List Nat → Env → St → (Env → St → Prop) → Prop
  | 0, done, env, σ, K => readyN ops done = [] ∧ K env σ
  | f + 1, done, env, σ, K => (readyN ops done = [] → K env σ) ∧ ∀ i ∈ readyN ops done, ∃ o, ops[i]? = some o ∧ hOps P n ops [o] env σ (fun env σ => hAny P n ops f (i :: done) env σ K)
theorem any_sound {F : Fence} (hF : IsW F) {K : Exit → Env → St → Prop} {w0 : World} {g0 : G} : ∀ (fuel : Nat) {done : List Nat} {listed : Array Bool} {w : World} {g : G} {a : Act} {env : Env} {σ : St},
    listed.size = ops.size → (∀ j, Li listed j ↔ j ∈ done) → hAny P n ops fuel done env σ (K .normal) → Good n w g a env σ → Ext w0 g0 w g → wpAnyIn F 0 P .any ops (PostH n w0 g0 K) fuel listed a w := by
  have hrdy : ∀ {done : List Nat} {listed : Array Bool}, listed.size = ops.size → (∀ j, Li listed j ↔ j ∈ done) → ∀ i, i ∈ Region.ready .any ops listed ↔ i ∈ readyN ops done := fun {done} {listed} hs hl i => by
    rw [ready_iff hs, readyN_iff]
    constructor
    · rintro ⟨h1, o, h2, h3⟩
      exact ⟨o, h2, fun hc => h1 ((hl i).2 hc), fun e he hb => (hl _).1 (h3 e he hb)⟩
    · rintro ⟨o, h2, h1, h3⟩
      exact ⟨fun hc => h1 ((hl i).1 hc), o, h2, fun e he hb => (hl _).2 (h3 e he hb)⟩
  intro fuel
  induction fuel with
  | zero =>
    intro done listed w g a env σ hs hl h hg hx
    obtain ⟨h1, h2⟩ := h
    refine ⟨?_, env, σ, g, hx, hg, h2⟩
    rw [List.eq_nil_iff_forall_not_mem]
    intro i hi
    rw [hrdy hs hl, h1] at hi
    simp at hi
  | succ fuel ih =>
    intro done listed w g a env σ hs hl h hg hx
    obtain ⟨h1, h2⟩ := h
    refine ⟨fun hnil => ⟨env, σ, g, hx, hg, h1 ?_⟩, fun i hi => ?_⟩
    · rw [List.eq_nil_iff_forall_not_mem]
      intro i hi
      rw [← hrdy hs hl, hnil] at hi
      simp at hi
    · obtain ⟨o, ho, h⟩ := h2 i ((hrdy hs hl i).1 hi)
      have hlt : i < ops.size := (Array.getElem?_eq_some_iff.1 ho).1
      have hl' : ∀ j, Li (listed.setIfInBounds i true) j ↔ j ∈ i :: done := fun j => by
        rw [Li_set (by omega), hl j, List.mem_cons]
      simp only [hOps] at h
      refine wpOp_of hF ho ?_
      rcases wanted_ok hg h with ⟨hw, env0, h, hg⟩ | ⟨hw, env0, h, hg⟩
      · refine .inl ⟨hw, ?_⟩
        refine h w g a hg.inv hg.env F hF _ _ ?_
        rintro v w' ⟨x, e1, s1, ⟨g', k1, k2, k3, k4⟩, e2, hput, h⟩
        exact ih (by simp [hs]) hl' h (put_good hput ⟨k4, k3, hg.defers.ext k1, hg.size⟩ k2) (hx.trans k1)
      · refine .inr ⟨hw, ?_⟩
        obtain ⟨e2, hput, h⟩ := h
        exact ih (by simp [hs]) hl' h (put_good hput hg (.t _ _ .undef)) hx
theorem w_regAny (hp : ProgOk P c) {id f : Nat} {env env' : Env} {σ σ' : St} {K : Exit → Env → St → Prop} (hf : ops.size = f) (hz : regFrz ops env σ = (env', σ')) (h : hAny P n ops f [] env' σ' (K .normal)) : Tr P n (.region id ops true) env σ K := by
  subst hf
  intro F hF hrf w g0 a hg0
  obtain ⟨g, hx, hg⟩ := regFrz_sound hz hg0
  refine wpIn_mono ?_ fun ex a2 w2 (hq : PostH n w g K ex a2 w2) => hq.lift hx
  refine wpIn_region_any hp.mix ?_
  exact any_sound hF ops.size (by simp) (fun j => by simp [Li, Array.getElem?_replicate]) h hg.drew (Ext.drew w g)
theorem any_0 {f : Nat} {done : List Nat} {env : Env} {σ : St} {K : Env → St → Prop} (hr : readyN ops done = []) (h : K env σ) : hAny P n ops f done env σ K := by
  cases f with
  | zero => exact ⟨hr, h⟩
  | succ f => exact ⟨fun _ => h, fun i hi => by rw [hr] at hi; simp at hi⟩
theorem any_1 {f i : Nat} {o : Oper} {done : List Nat} {env : Env} {σ : St} {K : Env → St → Prop} (hr : readyN ops done = [i]) (ho : ops[i]? = some o) (h : hOps P n ops [o] env σ (fun env σ => hAny P n ops f (i :: done) env σ K)) : hAny P n ops (f + 1) done env σ K :=
  ⟨fun hc => (by rw [hr] at hc; cases hc), fun j hj => by rw [hr] at hj; simp at hj; subst hj; exact ⟨o, ho, h⟩⟩
theorem any_2 {f i j : Nat} {o o2 : Oper} {done : List Nat} {env : Env} {σ : St} {K : Env → St → Prop} (hr : readyN ops done = [i, j]) (ho : ops[i]? = some o) (ho2 : ops[j]? = some o2) (h : hOps P n ops [o] env σ (fun env σ => hAny P n ops f (i :: done) env σ K)) (h2 : hOps P n ops [o2] env σ (fun env σ => hAny P n ops f (j :: done) env σ K)) : hAny P n ops (f + 1) done env σ K :=
  ⟨fun hc => (by rw [hr] at hc; cases hc), fun k hk => by
    rw [hr] at hk; simp at hk
    rcases hk with rfl | rfl
    · exact ⟨o, ho, h⟩
    · exact ⟨o2, ho2, h2⟩⟩
end
end Go.Am

namespace Go.Am
section
variable {P : Program} {c : Conf} {n : Nat} {ops : Array Oper} {rest : List Oper} {env : Env} {σ : St} {o : Oper} {K : Exit → Env → St → Prop} {k : Env → St → Prop}
theorem o_frzP (t b ρ : Nat) {sz : Nat} {es : List (List T)} {L : List Rt} {y : AV} (y' : Nat → Nat → AV) (L' : Nat → Nat → List Rt) (hg : o.guard = none) (hb : look σ b = some (.grow sz es)) (hρ : look σ ρ = some (.rights L)) (hne : es ≠ []) (hy : look env t = some y)
    (hps : ∀ blk N, PS b sz es blk N y (y' blk N)) (hL : ∀ blk N, (∀ q ∈ L, q.1 ≠ blk) → ((L' blk N).map Prod.fst).Nodup ∧ ∀ q ∈ L' blk N, q = (blk, N, es.length * sz) ∨ q ∈ L)
    (h : ∀ blk N, (∀ q ∈ L, q.1 ≠ blk) → hOps P n ops (o :: rest) ((t, y' blk N) :: frzE b sz es env) (upd (frzS b sz es σ) ρ (.rights (L' blk N))) k) : hOps P n ops (o :: rest) env σ k := by
  simp only [hOps, wantedH, hg] at h ⊢
  intro w g a hi he
  obtain ⟨blk, N, hf, g', k1, k2, k3, k4⟩ := freezeP hi hb hρ hne
  obtain ⟨q1, q2⟩ := hL blk N hf
  refine (h blk N hf w g' a (k2 _ q1 q2) (fun t' x hx => ?_)).mono ?_
  · rw [look_cons] at hx
    split at hx
    · rename_i e; subst e; cases hx; exact hps blk N w g g' k4 k3 _ (he t y hy)
    · rw [frzE_get] at hx
      cases hl : look env t' with
      | none => simp [hl] at hx
      | some z => simp [hl] at hx; subst hx; exact k3 _ _ (he t' z hl)
  · rintro v w' ⟨x, e, s, hp, hk⟩
    exact ⟨x, e, s, hp.lift k1, hk⟩
/- a row's elements, known less well -/
theorem subGrow_inv {w : World} {g : G} (b : Nat) {sz : Nat} {es es' : List (List T)} (hb : look σ b = some (.grow sz es)) (hs : SubTss es es') (hi : Inv w g σ) : Inv w g (upd σ b (.grow sz es')) := by
  obtain ⟨h1, h2, h3⟩ := hs.flat
  obtain ⟨q0, hor⟩ := hi.ok b _ hb
  refine ⟨fun d C hC => ?_, fun d => ?_, hi.inj, hi.lt, fun d hc' => ⟨(hi.bx d hc').1, ?_⟩, hi.dis, hi.im, hi.lo, hi.sx.upd b (fun L h => by cases h)⟩
  · rw [look_upd] at hC
    split at hC
    · rename_i e1; subst e1; cases hC
      refine ⟨h3 sz q0, ?_⟩
      rcases hor with ⟨p1, p2⟩ | ⟨blk, vs, e, p1, p2, p3, p4, p5⟩
      · refine .inl ⟨p1, ?_⟩
        subst p2
        cases es' with
        | nil => rfl
        | cons => simp at h1
      · refine .inr ⟨blk, vs, e, p1, p2, p3, by rw [← h2.len]; exact p4, fun i v x hv hx => ?_⟩
        obtain ⟨y, r1, r2⟩ := h2.get i x hx
        obtain ⟨s1, s2⟩ := p5 i v y hv r1
        exact ⟨r2.1 s1, r2.2 _ _ _ s2⟩
    · exact hi.ok d C hC
  · rw [look_upd]
    by_cases e1 : b = d
    · subst e1; rw [← hi.dom b, hb]; simp
    · simp only [if_neg e1]; exact hi.dom d
  · rw [look_upd]
    split
    · rename_i e1; subst e1
      obtain ⟨cs, hcs⟩ := (hi.bx b hc').2
      rw [hb] at hcs; cases hcs
    · exact (hi.bx d hc').2
theorem Tr.subGrow {code : Code} (b : Nat) {sz : Nat} {es es' : List (List T)} (hb : look σ b = some (.grow sz es)) (hs : SubTss es es') (h : Tr P n code env (upd σ b (.grow sz es')) K) : Tr P n code env σ K := by
  intro F hF hrf w g a hg
  exact h F hF hrf w g a ⟨hg.env, subGrow_inv b hb hs hg.inv, hg.defers, hg.size⟩
/- whatever the code came to: from here on one of these states -/
theorem w_pin {ι : Type} (I : ι → Prop) (E : ι → Env) (S : ι → St) {code code2 : Code} {K2 : Exit → Env → St → Prop} (hK : ∀ e s, Tr P n code2 e s K2 → K .normal e s) (h1 : Tr P n code env σ (fun ex e s => ex = .normal ∧ ∃ i, I i ∧ At (E i) (S i) e s)) (h2 : ∀ i, I i → Tr P n code2 (E i) (S i) K2) : Tr P n code env σ K :=
  h1.mono fun ex e s ⟨he, i, hI, ha⟩ => by
    subst he
    exact hK e s ((h2 i hI).weak ha)
theorem pin_at {ι : Type} {I : ι → Prop} {E : ι → Env} {S : ι → St} {e : Env} {s : St} (i : ι) (hI : I i) (D : List Nat) (h3 : SubEnv (E i) (dropE D e)) (h4 : dropS D s = S i) : Exit.normal = Exit.normal ∧ ∃ i, I i ∧ At (E i) (S i) e s := ⟨rfl, i, hI, D, h3, h4⟩
theorem look_app {α : Type} : ∀ (l r : List (Nat × α)) (b : Nat), look (l ++ r) b = match look l b with
    | some x => some x
    | none => look r b
  | [], r, b => by simp [look]
  | (k, x) :: l, r, b => by
    simp only [List.cons_append, look_cons, look_app l r b]
    split <;> rfl
/- the state's first block, put last -/
theorem Tr.rotS {code : Code} {b : Nat} {B : Blk} {r : St} (hb : look r b = none) (h : Tr P n code env (r ++ [(b, B)]) K) : Tr P n code env ((b, B) :: r) K :=
  Tr.eqS _ (fun d => by
    rw [look_app, look_cons, look_cons]
    by_cases e : b = d
    · subst e; simp [hb]
    · rw [if_neg e, if_neg e]
      cases look r d <;> simp [look]) h
theorem w_sliceR (hp0 : ProgOk P c) {t e s0 b0 b sz rl len esz ebb : Nat} {z0 ez : List T} {ek : TK} {xo : Operand} {lo hi : Option Operand} {l h : Nat} {e2 : Env} (hg : o.guard = none) (ho : o.op = .slice t xo lo hi none) (hx : ev env xo = some (.row b sz rl len)) (ht : look c.te t = some ⟨s0, b0, z0, .slice e⟩) (he : look c.te e = some ⟨esz, ebb, ez, ek⟩) (hsz : esz = sz)
    (hh : boundV env hi len = some h) (hl : boundV env lo 0 = some l) (h1 : h ≤ len) (h2 : l ≤ h) (hp : putV n o.dst (.row b sz (rl + l) (h - l)) env = some e2) (hk : hOps P n ops rest e2 σ k) : hOps P n ops (o :: rest) env σ k := by
  refine w_step hp0 (x := .row b sz (rl + l) (h - l)) (e := env) (s := σ) hg ?_ hp hk
  unfold stepV
  rw [ho]
  simp only [pureV, hx, sliceV, ht, he, hh, hl, if_pos h1, if_pos h2, hsz, if_true]
end
end Go.Am

namespace Go.Am
section
variable {P : Program} {c : Conf} {n : Nat} {ops : Array Oper} {rest : List Oper} {env : Env} {σ : St} {o : Oper} {k : Env → St → Prop} {news : List Nat}
theorem indexR_val {te : TE} {t e s0 b0 b sz lo len esz ebb kc : Nat} {z0 ez : List T} {ek : TK} {kk : IntKind} {nn : Int} (ht : look te t = some ⟨s0, b0, z0, .slice e⟩) (he : look te e = some ⟨esz, ebb, ez, ek⟩) (hsz : esz = sz) (hn : nn = (kc : Int)) (hlt : kc < len) :
    indexAddrV te t (.row b sz lo len) (.t (.int kk nn)) = some (.eref b sz (lo + kc) 0) := by
  subst hn; subst hsz
  unfold indexAddrV
  simp only [natOf_ofNat, ht, he, if_true, if_pos hlt]
theorem w_indexR (hp0 : ProgOk P c) {t e s0 b0 b sz lo len esz ebb kc : Nat} {z0 ez : List T} {ek : TK} {kk : IntKind} {nn : Int} {xo io : Operand} {e2 : Env} (hg : o.guard = none) (ho : o.op = .indexAddr t xo io) (hx : ev env xo = some (.row b sz lo len)) (hi : ev env io = some (.t (.int kk nn)))
    (ht : look c.te t = some ⟨s0, b0, z0, .slice e⟩) (he : look c.te e = some ⟨esz, ebb, ez, ek⟩) (hsz : esz = sz) (hn : nn = (kc : Int)) (hlt : kc < len) (hp : putV n o.dst (.eref b sz (lo + kc) 0) env = some e2) (h : hOps P n ops rest e2 σ k) : hOps P n ops (o :: rest) env σ k := by
  refine w_step hp0 (x := .eref b sz (lo + kc) 0) (e := env) (s := σ) hg ?_ hp h
  unfold stepV
  rw [ho]
  simp only [pureV, hx, hi, indexR_val ht he hsz hn hlt]
theorem s_indexR {t e s0 b0 b sz lo len esz ebb kc : Nat} {z0 ez : List T} {ek : TK} {kk : IntKind} {nn : Int} {xo io : Operand} {e2 : Env} (hg : o.guard = none) (ho : o.op = .indexAddr t xo io) (hx : ev env xo = some (.row b sz lo len)) (hi : ev env io = some (.t (.int kk nn)))
    (ht : look c.te t = some ⟨s0, b0, z0, .slice e⟩) (he : look c.te e = some ⟨esz, ebb, ez, ek⟩) (hsz : esz = sz) (hn : nn = (kc : Int)) (hlt : kc < len) (hp : putV n o.dst (.eref b sz (lo + kc) 0) env = some e2) (h : hSK P c n ops news rest e2 σ k) : hSK P c n ops news (o :: rest) env σ k := by
  refine s_step (x := .eref b sz (lo + kc) 0) (nb := []) hg ?_ rfl hp h
  unfold stillV
  rw [ho]
  simp only [pureV, hx, hi, indexR_val ht he hsz hn hlt]
theorem loadE_val {te : TE} {t b sz kc off : Nat} {ti : TI} {es : List (List T)} {e : List T} {y : T} (ht : look te t = some ti) (hb : look σ b = some (.grow sz es)) (he : es[kc]? = some e) (ha : ti.kind.agg = false) (hy : e[off]? = some y) : loadV te t (.eref b sz kc off) σ = some (.t y) := by
  unfold loadV
  simp only [ht, hb, if_true, he, ha, hy]
theorem w_loadE (hp0 : ProgOk P c) {t b sz kc off : Nat} {ti : TI} {es : List (List T)} {e : List T} {y : T} {xo : Operand} {e2 : Env} (hg : o.guard = none) (ho : o.op = .load t xo) (hx : ev env xo = some (.eref b sz kc off)) (ht : look c.te t = some ti) (hb : look σ b = some (.grow sz es)) (he : es[kc]? = some e) (ha : ti.kind.agg = false) (hy : e[off]? = some y) (hp : putV n o.dst (.t y) env = some e2) (h : hOps P n ops rest e2 σ k) : hOps P n ops (o :: rest) env σ k := by
  refine w_step hp0 (x := .t y) (e := env) (s := σ) hg ?_ hp h
  unfold stepV
  rw [ho]
  simp only [memV, ho, hx, loadE_val ht hb he ha hy]
theorem s_loadE {t b sz kc off : Nat} {ti : TI} {es : List (List T)} {e : List T} {y : T} {xo : Operand} {e2 : Env} (hg : o.guard = none) (ho : o.op = .load t xo) (hx : ev env xo = some (.eref b sz kc off)) (hm : mem1 b news = false) (ht : look c.te t = some ti) (hb : look σ b = some (.grow sz es)) (he : es[kc]? = some e) (ha : ti.kind.agg = false) (hy : e[off]? = some y) (hp : putV n o.dst (.t y) env = some e2) (h : hSK P c n ops news rest e2 σ k) : hSK P c n ops news (o :: rest) env σ k := by
  refine s_step (x := .t y) (nb := []) hg ?_ rfl hp h
  unfold stillV
  rw [ho]
  simp only [hx, loadS, hm, loadE_val ht hb he ha hy]
theorem w_storeE (hp0 : ProgOk P c) {t b sz kc off : Nat} {ti : TI} {es : List (List T)} {e : List T} {y : AV} {ts : List T} {po xo : Operand} {env' e2 : Env} {σ' : St} (hg : o.guard = none) (ho : o.op = .store t po xo) (hz : preFrz o env σ = (env', σ')) (hpo : ev env' po = some (.eref b sz kc off)) (hxo : ev env' xo = some y) (ht : look c.te t = some ti) (hc : cellsA y = some (liftT ts)) (hat : allT (liftT ts) = some ts) (hl : (liftT ts).length = ti.size)
    (hb : look σ' b = some (.grow sz es)) (he : es[kc]? = some e) (hle : Nat.ble (off + ti.size) sz = true) (hp : putV n o.dst (.t .undef) env' = some e2) (h : hOps P n ops rest e2 (upd σ' b (.grow sz (es.set kc (setR e off ts)))) k) : hOps P n ops (o :: rest) env σ k := by
  have hle' : off + ti.size ≤ sz := by simpa using hle
  refine w_step hp0 (x := .t .undef) (e := env') (s := upd σ' b (.grow sz (es.set kc (setR e off ts)))) hg ?_ hp h
  unfold stepV
  rw [ho]
  simp only [hz, memV, ho, hpo, hxo, storeV, ht, hc, hl, hb, if_true, he, hat, if_pos hle']
/- rows lent to a call that hands scalars back: nothing of ours is changed -/
theorem lend_calls {f : Nat} {xs ys : List AV} {r : AV} (h : Ct P f ys [] r []) (hs : scalA r = true) (hl : lendL σ xs = some ys) {vs : List Value} {w : World} {g : G} (hr : RelL w g vs xs) (hi : Inv w g σ) :
    Calls P f vs.toArray w fun e w' => ∃ v, e = .returned v ∧ Ext w g w' g ∧ Rel w' g v r ∧ Inv w' g σ ∧ ∀ v x, Rel w g v x → Rel w' g v x := by
  refine (h.2 vs w (g.lend σ) (lendL_rel hi hl hr) (lend_inv hi)).mono ?_
  rintro e w' ⟨v, g', rfl, hx, hv, hi'⟩
  have hkeep : ∀ blk, blk < w.heap.size → w'.heap[blk]? = w.heap[blk]? := fun blk hb => hx.keep blk hb (fun h => h)
  have hext : Ext w g w' g := ⟨hx.size, fun blk hb _ => hkeep blk hb, fun _ _ h => h, fun _ _ => Iff.rfl, hx.shape, fun _ h => ⟨h, rfl⟩, ⟨rfl, hx.lo.2⟩, spKeep (fun _ _ _ _ h => h) (fun blk e hb _ _ => hkeep blk hb)⟩
  have hmono : ∀ v x, Rel w g v x → Rel w' g v x := fun v x hr => hr.mono hext.keeps (fun _ _ h => h) hx.shape
  refine ⟨v, rfl, hext, scalA_any hv hs, ⟨fun b B hB => ?_, hi.dom, hi.inj, fun blk hb => Nat.lt_of_lt_of_le (hi.lt blk hb) hx.size, hi.bx, hi.dis, hi.im_of hext.keeps, Nat.le_trans hi.lo hx.size, hi.sx.mono hx.size rfl (fun _ _ _ h => h) (fun blk e h _ _ => hkeep blk (hi.sx.lt _ _ h)) (fun c blk h => .inl ⟨c, h⟩) (fun _ _ h => h)⟩, hmono⟩
  have hok := hi.ok b B hB
  refine hok.mono rfl (fun _ _ h => h) (fun blk hb => hkeep _ ?_) hmono
  exact (own_lt hi hb).1
theorem w_callLend (hp0 : ProgOk P c) {cl : Call} {f : Nat} {as ys : List AV} {e2 : Env} {r : AV} (hg : o.guard = none) (ho : o.op = .call cl) (hc : calleeV c env cl = some (f, as)) (hl : lendL σ as = some ys) (hct : Ct P f ys [] r []) (hs : scalA r = true) (hp : putV n o.dst r env = some e2) (h : hOps P n ops rest e2 σ k) : hOps P n ops (o :: rest) env σ k := by
  simp only [hOps, wantedH, hg]
  intro w g a hi hee
  obtain ⟨⟨fn, hf, hb⟩, hca⟩ := id hct
  obtain ⟨vs, hrun, hrel⟩ := callee_sound hp0 hee hc ho hf hb
  refine Does.enter hrun ?_
  refine (lend_calls hct hs hl hrel hi).mono ?_
  rintro ed w' ⟨v, rfl, q1, q2, q3, q4⟩
  exact ⟨v, rfl, _, _, _, ⟨g, q1, q2, q3, hee.mono q4⟩, e2, hp, h⟩
/- first the places fl (moves, places of fields), then order by order -/
def anyF (ops : Array Oper) (fl : List Nat) (f : Nat) : Bool := Region.noSelect ops && (takeOk ops fl (Array.replicate ops.size false) && (hasApp ops.toList && Nat.beq ops.size (f + fl.length)))
theorem w_regAnyF (hp : ProgOk P c) (fl : List Nat) (f : Nat) {id : Nat} {env1 env' : Env} {σ1 : St} {K : Exit → Env → St → Prop} (hd : anyF ops fl f = true) (hz : regFrz ops env σ = (env1, σ1)) (hte : takeEnvG c.te n ops fl env1 = some env') (hK : ∀ ch e s, ¬ K (.panic ch) e s) (h : hAny P n ops f fl env' σ1 (K .normal)) : Tr P n (.region id ops true) env σ K := by
  simp only [anyF, Bool.and_eq_true] at hd
  obtain ⟨hns, htk, ha, hsz⟩ := hd
  have hsz := Nat.eq_of_beq_eq_true hsz
  refine Tr.regFrz env1 σ1 hz ?_
  intro F hF hrf w g a hg
  have hro : F.round = none := by
    rcases hrf with h | h
    · exact h
    · simp [noRF, ha] at h
  have hin : ∀ i ∈ fl, i < (Array.replicate ops.size false).size := fun i hi => by
    have key : ∀ {l : List Nat} {ar : Array Bool}, takeOk ops l ar = true → ∀ i ∈ l, i < ops.size := by
      intro l
      induction l with
      | nil => intro _ _ i hi; simp at hi
      | cons x r ih =>
        intro ar ht i hi
        simp only [takeOk, Bool.and_eq_true] at ht
        rcases List.mem_cons.1 hi with rfl | hi
        · have := List.contains_iff_mem.1 ht.1.2
          unfold Region.ready at this
          rw [List.mem_filter, List.mem_range] at this
          exact this.1
        · exact ih ht.2 i hi
    simpa using key htk i hi
  have hLi : ∀ j, Li (setAll fl (Array.replicate ops.size false)) j ↔ j ∈ fl := fun j => by
    rw [setAll_Li _ _ _ hin]; simp [Li, Array.getElem?_replicate]
  refine wpIn_region_any hp.mix ?_
  rw [show wpAnyIn F 0 P .any ops (PostH n w g K) ops.size = wpAnyIn F 0 P .any ops (PostH n w g K) (f + fl.length) by rw [hsz]]
  refine takeG_sound hp.te hro hns hK fl htk hte hg.drew (fun a' hg' => ?_)
  exact any_sound hF f (by rw [setAll_size]; simp) hLi h hg' (Ext.drew w g)
end
theorem SubTss_set : ∀ {l l' : List (List T)} {k : Nat} {x y : List T}, SubTss l l' → l'[k]? = some y → SubTs x y → SubTss (l.set k x) l'
  | [], [], k, x, y, _, h, _ => by simp at h
  | a :: r, b :: s, 0, x, y, h, hk, hx => by simp at hk; subst hk; exact ⟨hx, h.2⟩
  | a :: r, b :: s, k + 1, x, y, h, hk, hx => ⟨h.1, SubTss_set h.2 (by simpa using hk) hx⟩
  | [], _ :: _, _, _, _, h, _, _ => h.elim
  | _ :: _, [], _, _, _, h, _, _ => h.elim
end Go.Am

namespace Go.Am
section
variable {P : Program} {c : Conf} {n : Nat} {ops : Array Oper} {rest : List Oper} {env : Env} {σ : St} {o : Oper} {k : Env → St → Prop} {news : List Nat}
theorem loadEA_val {te : TE} {t b sz kc off : Nat} {ti : TI} {es : List (List T)} {e ys : List T} (ht : look te t = some ti) (hb : look σ b = some (.grow sz es)) (he : es[kc]? = some e) (ha : ti.kind.agg = true) (hy : takeN ti.size (e.drop off) = some ys) : loadV te t (.eref b sz kc off) σ = some (.agg (liftT ys)) := by
  unfold loadV
  simp only [ht, hb, if_true, he, ha, hy]
theorem w_loadEA (hp0 : ProgOk P c) {t b sz kc off : Nat} {ti : TI} {es : List (List T)} {e ys : List T} {xo : Operand} {e2 : Env} (hg : o.guard = none) (ho : o.op = .load t xo) (hx : ev env xo = some (.eref b sz kc off)) (ht : look c.te t = some ti) (hb : look σ b = some (.grow sz es)) (he : es[kc]? = some e) (ha : ti.kind.agg = true) (hy : takeN ti.size (e.drop off) = some ys) (hp : putV n o.dst (.agg (liftT ys)) env = some e2) (h : hOps P n ops rest e2 σ k) : hOps P n ops (o :: rest) env σ k := by
  refine w_step hp0 (x := .agg (liftT ys)) (e := env) (s := σ) hg ?_ hp h
  unfold stepV
  rw [ho]
  simp only [memV, ho, hx, loadEA_val ht hb he ha hy]
theorem lend_rowb {es : List (List T)} {b sz m : Nat} {x : T} (h : look σ b = some (.grow sz es)) (hm : m = es.length) : lendL σ [.row b sz 0 m, .t x] = some [.t (.slice .any sz es), .t x] := by
  subst hm
  have t1 : es.take es.length = es := List.take_of_length_le (Nat.le_refl _)
  have t2 : es.length.ble es.length = true := by simp
  simp [lendL, lendA, h, t1, t2]
end
end Go.Am

namespace Go.Am
section
variable {P : Program} {c : Conf} {n : Nat} {ops : Array Oper} {rest : List Oper} {env : Env} {σ : St} {o : Oper} {k : Env → St → Prop}
theorem o_frzRow (t b : Nat) {sz : Nat} {es : List (List T)} {y y' : AV} (hg : o.guard = none) (hb : look σ b = some (.grow sz es)) (hy : look env t = some y) (hy' : frzA b sz es y = y') (h : hOps P n ops (o :: rest) ((t, y') :: frzE b sz es env) (frzS b sz es σ) k) : hOps P n ops (o :: rest) env σ k := by
  simp only [hOps, wantedH, hg] at h ⊢
  intro w g a hi he
  obtain ⟨k1, k2, k3⟩ := freeze hi hb
  refine (h w _ a k2 (fun t' x hx => ?_)).mono ?_
  · rw [look_cons] at hx
    split at hx
    · rename_i e; subst e; cases hx; rw [← hy']; exact k3 _ _ (he t y hy)
    · rw [frzE_get] at hx
      cases hl : look env t' with
      | none => simp [hl] at hx
      | some z => simp [hl] at hx; subst hx; exact k3 _ _ (he t' z hl)
  · rintro v w' ⟨x, e, s, hp, hk⟩
    exact ⟨x, e, s, hp.lift k1, hk⟩
end
end Go.Am
