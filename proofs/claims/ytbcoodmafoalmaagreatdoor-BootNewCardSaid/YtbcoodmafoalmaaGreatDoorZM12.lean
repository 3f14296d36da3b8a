/- Contracts and laws, joined: Hx, Hy, Hv, Hl, Hk, Hz. No condition beside those that each theorem names. -/
import Derived.Test.YtbcoodmafoalmaaGreatDoorZM11
import Derived.Test.YtbcoodmafoalmaaGreatDoorZM6
set_option linter.unusedVariables false
set_option linter.unusedSimpArgs false
namespace Go.Am
section
variable {P : Program} {c : Conf} {n m : Nat} {ops : Array Oper} {news : List Nat} {ex : Nat → List Nat} {sl : List (Nat × Nat)}
def Tou (sl : List (Nat × Nat)) (i : Nat) (o : Oper) (l : Nat) : Prop := l ∈ newLab o ∨ (i, l) ∈ sl
/- a call that hands back rows of its own -/
def wideOk (ω : List (Nat × Nat)) (σ2 : St) : Bool := nodupB (keysN ω) && (nodupB (valsN ω) && chkS ω σ2)
def Wide (P : Program) (c : Conf) (sl : List (Nat × Nat)) (i : Nat) (o : Oper) (env : Env) (σ : St) (y : AV) (nb : St) : Prop :=
  ∃ cf cl f as r σ2 ω, CfOk P cf ∧ o.op = .call cl ∧ calleeV c env cl = some (f, as) ∧ freeL as = true ∧ cf f as [] = some (r, σ2) ∧ wideOk ω σ2 = true ∧ (∀ b ∈ valsN ω, (i, b) ∈ sl ∧ look σ b = none) ∧ y = mapA (look ω) r ∧ nb = outS ω σ2
mutual
theorem mapA_free (f : Nat → Option Nat) : ∀ (x : AV), x.free = true → mapA f x = x
  | .t x, _ => rfl
  | .top, _ => rfl
  | .ref .., h => by simp [AV.free] at h
  | .eref .., h => by simp [AV.free] at h
  | .mref .., h => by simp [AV.free] at h
  | .row .., h => by simp [AV.free] at h
  | .iface t x, h => by simp only [AV.free] at h; simp only [mapA, mapA_free f x h]
  | .func fn x y, h => by simp only [AV.free, Bool.and_eq_true] at h; simp only [mapA, mapL_free f x h.1, mapL_free f y h.2]
  | .agg cs, h => by simp only [AV.free] at h; simp only [mapA, mapL_free f cs h]
  | .tuple cs, h => by simp only [AV.free] at h; simp only [mapA, mapL_free f cs h]
theorem mapL_free (f : Nat → Option Nat) : ∀ (l : List AV), freeL l = true → mapL f l = l
  | [], _ => rfl
  | x :: r, h => by simp only [freeL, Bool.and_eq_true] at h; simp only [mapL, mapA_free f x h.1, mapL_free f r h.2]
end
mutual
theorem mapA_id {f : Nat → Option Nat} (hf : ∀ b, f b = some b) : ∀ (x : AV), mapA f x = x
  | .t x => rfl
  | .top => rfl
  | .ref c o => by simp [mapA, hf]
  | .eref c s k o => by simp [mapA, hf]
  | .mref c => by simp [mapA, hf]
  | .row c s l k => by simp [mapA, hf]
  | .iface t x => by simp only [mapA, mapA_id hf x]
  | .func fn x y => by simp only [mapA, mapL_id hf x, mapL_id hf y]
  | .agg cs => by simp only [mapA, mapL_id hf cs]
  | .tuple cs => by simp only [mapA, mapL_id hf cs]
theorem mapL_id {f : Nat → Option Nat} (hf : ∀ b, f b = some b) : ∀ (l : List AV), mapL f l = l
  | [] => rfl
  | x :: r => by simp only [mapL, mapA_id hf x, mapL_id hf r]
end
theorem mapE_id {f : Nat → Option Nat} (hf : ∀ b, f b = some b) : ∀ (l : Env), mapE f l = l
  | [] => rfl
  | (t, x) :: r => by simp only [mapE, mapA_id hf x, mapE_id hf r]
theorem mapB_id {f : Nat → Option Nat} (hf : ∀ b, f b = some b) (B : Blk) : mapB f B = B := by
  cases B <;> simp [mapB, mapL_id hf, mapE_id hf]
theorem restS_nil (σ : St) : ∀ s : St, restS [] σ s = s
  | [] => rfl
  | (b, B) :: r => by
    have hk : ∀ b, keepF [] σ b = some b := fun b => by simp [keepF, look]
    simp only [restS, look, mapB_id hk, restS_nil σ r]
theorem chkO_nil {σ : St} : ∀ {ω : List (Nat × Nat)}, (∀ b ∈ valsN ω, look σ b = none) → chkO [] σ ω = true
  | [], _ => rfl
  | (c, b) :: r, h => by
    simp only [chkO, look, h b (by simp [valsN]), chkO_nil (ω := r) (fun b' hb => h b' (by simp [valsN, hb]))]
    simp
theorem wide_does {P : Program} {c : Conf} {sl : List (Nat × Nat)} (hp : ProgOk P c) {i : Nat} {o : Oper} {w : World} {g : G} {a : Act} {env : Env} {σ : St} {y : AV} {nb : St} (hi : Inv w g σ) (he : RelEnv w g a env) (h : Wide P c sl i o env σ y nb) :
    Does P o a w (fun v w' => ∃ g', Ext w g w' g' ∧ Rel w' g' v y ∧ RelEnv w' g' a env ∧ Inv w' g' (nb ++ σ)) := by
  obtain ⟨cf, cl, f, as, r, σ2, ω, hcf, ho, hc, hfr, hr, hw, hl, rfl, rfl⟩ := h
  simp only [wideOk, Bool.and_eq_true] at hw
  have hR : chkR [] ω σ σ2 = true := by
    simp only [chkR, keysN, nodupB, hw.1, hw.2.1, hw.2.2, chkI, chkO_nil (fun b hb => (hl b hb).2), Bool.and_self]
  have hR := chkR_ok hR
  obtain ⟨⟨fn, hf, hb⟩, hca⟩ := hcf _ _ _ _ _ hr
  obtain ⟨vs, hrun, hrel⟩ := callee_sound hp he hc ho hf hb
  obtain ⟨i1, i2⟩ := sub_inv hi hR
  have hrel2 := hrel.ren (look []) i2
  rw [mapL_free _ as hfr] at hrel2
  refine Does.enter hrun ((hca vs w _ hrel2 i1).mono ?_)
  rintro ed w' ⟨v, g1, rfl, q1, q2, q3⟩
  obtain ⟨g', k1, k2, k3, k4⟩ := back_sound hi hR q1 q3
  rw [restS_nil] at k2
  have hk : ∀ b, keepF [] σ b = some b := fun b => by simp [keepF, look]
  refine ⟨v, rfl, g', k1, k3 v r q2, fun t x hx => ?_, k2⟩
  have := k4 _ _ (he t x hx)
  rwa [mapA_id hk] at this
theorem look_appM : ∀ {nb σ : St} {b : Nat}, look (nb ++ σ) b = match look nb b with
    | some B => some B
    | none => look σ b
  | [], σ, b => by simp [look]
  | (k, B) :: r, σ, b => by
    rw [List.cons_append, look_cons, look_cons]
    split
    · rfl
    · exact look_appM
def OutW (P : Program) (c : Conf) (n : Nat) (ops : Array Oper) (news : List Nat) (ex : Nat → List Nat) (sl : List (Nat × Nat)) (i : Nat) (o : Oper) (env : Env) (σ : St) (y : AV) (nb : St) : Prop :=
  dstOk n o.dst ∧
  ((wantB ops o env = some true ∧ ∃ t so xo p x0 lab B0 B1, o.op = .store t so xo ∧ o.dst = none ∧ ev env so = some p ∧ ev env xo = some x0 ∧ (i, lab) ∈ sl ∧ look σ lab = some B0 ∧ (∀ σ, look σ lab = some B0 → storeV c.te t p x0 σ = some (upd σ lab B1)) ∧ y = .top ∧ nb = [(lab, B1)])
  ∨ (wantB ops o env = some true ∧ ∃ cf, CfOk P cf ∧ stillV c cf (ex i ++ news) o env σ = some (y, nb))
  ∨ (wantB ops o env = some false ∧ y = .t .undef ∧ nb = [])
  ∨ (wantB ops o env = some true ∧ Wide P c sl i o env σ y nb))
theorem OutW.congr {i : Nat} {o : Oper} {env env' : Env} {σ σ' : St} {y : AV} {nb : St} (h : OutW P c n ops news ex sl i o env σ y nb) (he : ∀ t, t ∈ o.looksAt ops → look env t = look env' t)
    (hs : ∀ b, b ∉ ex i ++ news → look σ b = look σ' b) (hn : ∀ b, Tou sl i o b → look σ b = look σ' b) : OutW P c n ops news ex sl i o env' σ' y nb := by
  refine ⟨h.1, ?_⟩
  rw [← wantB_congr he]
  rcases h.2 with ⟨h1, t, so, xo, p, x0, lab, B0, B1, q1, q2, q3, q4, q5, q6, q7, q8, q9⟩ | ⟨h1, cf, h2, h3⟩ | h3 | ⟨h1, cf, cl, f, as, r, σ2, ω, w1, w2, w3, w4, w5, w6, w7, w8, w9⟩
  · refine .inl ⟨h1, t, so, xo, p, x0, lab, B0, B1, q1, q2, ?_, ?_, q5, ?_, q7, q8, q9⟩
    · rw [← ev_looks he so (by rw [q1]; simp [Op.operands])]; exact q3
    · rw [← ev_looks he xo (by rw [q1]; simp [Op.operands])]; exact q4
    · rw [← hn lab (.inr q5)]; exact q6
  · exact .inr (.inl ⟨h1, cf, h2, by rw [← stillV_congr (ev_looks he) hs (fun b hb => hn b (.inl hb))]; exact h3⟩)
  · exact .inr (.inr (.inl h3))
  · have hop : ∀ x ∈ cl.operands, ev env x = ev env' x := fun x hx => ev_looks he x (by rw [w2]; exact hx)
    exact .inr (.inr (.inr ⟨h1, cf, cl, f, as, r, σ2, ω, w1, w2, by rw [← calleeV_congr hop]; exact w3, w4, w5, w6, fun b hb => ⟨(w7 b hb).1, by rw [← hn b (.inr (w7 b hb).1)]; exact (w7 b hb).2⟩, w8, w9⟩))
theorem look_outS_mem {ω : List (Nat × Nat)} {b : Nat} : ∀ {s : St}, look (outS ω s) b ≠ none → ∃ c, look ω c = some b
  | [], h => by simp [outS, look] at h
  | (c', B) :: r, h => by
    simp only [outS] at h
    split at h
    · rename_i b' hb'
      rw [look_cons] at h
      by_cases e : b' = b
      · subst e; exact ⟨c', hb'⟩
      · rw [if_neg e] at h; exact look_outS_mem h
    · exact look_outS_mem h
theorem OutW.new {i : Nat} {o : Oper} {env : Env} {σ : St} {y : AV} {nb : St} (h : OutW P c n ops news ex sl i o env σ y nb) {b : Nat} (hb : look nb b ≠ none) : Tou sl i o b := by
  rcases h.2 with ⟨_, t, so, xo, p, x0, lab, B0, B1, _, _, _, _, q5, _, _, _, q9⟩ | ⟨_, cf, _, h⟩ | ⟨_, _, h⟩ | ⟨_, cf, cl, f, as, r, σ2, ω, w1, w2, w3, w4, w5, w6, w7, w8, w9⟩
  · subst q9
    rw [look_cons] at hb
    split at hb
    · rename_i e; subst e; exact .inr q5
    · simp [look] at hb
  · rcases stillV_new h with h | ⟨d, B, _, h2, h3, _⟩
    · subst h; simp [look] at hb
    · subst h2
      rw [look_cons] at hb
      split at hb
      · rename_i e; subst e; exact .inl (by rw [h3]; simp)
      · simp [look] at hb
  · subst h; simp [look] at hb
  · subst w9
    obtain ⟨c', hc⟩ := look_outS_mem hb
    exact .inr (w7 b (mem_vals (look_mem hc))).1
def RunsW (P : Program) (c : Conf) (n : Nat) (ops : Array Oper) (news : List Nat) (ex : Nat → List Nat) (sl : List (Nat × Nat)) : List Nat → Env → St → Env → St → Prop
  | [], env, σ, e, s => (∀ t, look e t = look env t) ∧ (∀ b, look s b = look σ b)
  | i :: r, env, σ, e, s => ∃ o y nb e1 s1, ops[i]? = some o ∧ OutW P c n ops news ex sl i o env σ y nb ∧ After o env σ y nb e1 s1 ∧ RunsW P c n ops news ex sl r e1 s1 e s
theorem look_app1 {nb σ : St} {l : Nat} {B : Blk} (h : nb = [(l, B)]) (b : Nat) : look (nb ++ σ) b = if l = b then some B else look σ b := by
  subst h; simp only [List.cons_append, List.nil_append]; rw [look_cons]
theorem RunsW.congr : ∀ {l : List Nat} {env env' : Env} {σ σ' : St} {e : Env} {s : St}, RunsW P c n ops news ex sl l env σ e s → (∀ t, look env t = look env' t) → (∀ b, look σ b = look σ' b) → RunsW P c n ops news ex sl l env' σ' e s
  | [], env, env', σ, σ', e, s, h, he, hs => ⟨fun t => by rw [h.1 t, he t], fun b => by rw [h.2 b, hs b]⟩
  | i :: r, env, env', σ, σ', e, s, ⟨o, y, nb, e1, s1, h1, h3, h4, h5⟩, he, hs => by
    refine ⟨o, y, nb, e1, s1, h1, h3.congr (fun t _ => he t) (fun b _ => hs b) (fun b _ => hs b), ⟨fun t => by rw [h4.1 t, he t], fun b => ?_⟩, h5⟩
    rw [h4.2 b, look_appM, look_appM, hs b]
/- two places that no edge orders -/
structure Indep (ops : Array Oper) (news : List Nat) (ex : Nat → List Nat) (sl : List (Nat × Nat)) (i j : Nat) (oi oj : Oper) : Prop where
  ap : oj.apart ops oi = true
  tj : ∀ l, Tou sl j oj l → l ∈ ex i ++ news ∧ ¬ Tou sl i oi l
  ti : ∀ l, Tou sl i oi l → l ∈ ex j ++ news
theorem swapW {i j : Nat} {r : List Nat} {oi oj : Oper} (hoi : ops[i]? = some oi) (hoj : ops[j]? = some oj) (hI : Indep ops news ex sl i j oi oj) {env : Env} {σ : St} {e : Env} {s : St}
    (h : RunsW P c n ops news ex sl (j :: i :: r) env σ e s) : RunsW P c n ops news ex sl (i :: j :: r) env σ e s := by
  obtain ⟨o1, y1, nb1, e1, s1, a1, a3, a4, o2, y2, nb2, e2, s2, b1, b3, b4, hr⟩ := h
  rw [hoj] at a1; cases a1
  rw [hoi] at b1; cases b1
  obtain ⟨p1, p2, p3⟩ := Oper.apart_spec hI.ap
  have n1 : ∀ (σ : St) b, ¬ Tou sl j oj b → look (nb1 ++ σ) b = look σ b := by
    intro σ b hb
    have h0 : look nb1 b = none := Classical.byContradiction fun hc => hb (a3.new hc)
    rw [look_appM, h0]
  have n2 : ∀ (σ : St) b, ¬ Tou sl i oi b → look (nb2 ++ σ) b = look σ b := by
    intro σ b hb
    have h0 : look nb2 b = none := Classical.byContradiction fun hc => hb (b3.new hc)
    rw [look_appM, h0]
  have c3 : OutW P c n ops news ex sl i oi env σ y2 nb2 := by
    refine b3.congr (fun t ht => ?_) (fun b hb => ?_) (fun b hb => ?_)
    · rw [a4.1 t, if_neg (fun hd => p1 t hd ht)]
    · rw [a4.2 b]; exact n1 σ b (fun hc => hb (hI.tj b hc).1)
    · rw [a4.2 b]; exact n1 σ b (fun hc => (hI.tj b hc).2 hb)
  obtain ⟨e3, he3⟩ : ∃ e3 : Env, ∀ t, look e3 t = if oi.dst = some t then some y2 else look env t := by
    cases hd : oi.dst with
    | none => exact ⟨env, fun t => by simp⟩
    | some d => exact ⟨(d, y2) :: env, fun t => by rw [look_cons]; simp⟩
  have d3 : OutW P c n ops news ex sl j oj e3 (nb2 ++ σ) y1 nb1 := by
    refine a3.congr (fun t ht => ?_) (fun b hb => ?_) (fun b hb => ?_)
    · rw [he3 t, if_neg (fun hd => p3 t hd ht)]
    · exact (n2 σ b (fun hc => hb (hI.ti b hc))).symm
    · exact (n2 σ b (fun hc => (hI.tj b hb).2 hc)).symm
  refine ⟨oi, y2, nb2, e3, nb2 ++ σ, hoi, c3, ⟨he3, fun _ => rfl⟩, oj, y1, nb1, e2, s2, hoj, d3, ⟨fun t => ?_, fun b => ?_⟩, hr⟩
  · rw [b4.1 t, a4.1 t, he3 t]
    by_cases h1 : oi.dst = some t
    · have h2 : ¬ oj.dst = some t := fun h2 => p2 t h2 h1
      simp [h1, h2]
    · simp [h1]
  · rw [b4.2 b]
    by_cases hi : Tou sl i oi b
    · have hj : ¬ Tou sl j oj b := fun hc => (hI.tj b hc).2 hi
      rw [n1 _ b hj, look_appM, look_appM, a4.2 b, n1 σ b hj]
    · rw [n2 _ b hi, a4.2 b, look_appM, look_appM, n2 σ b hi]
theorem bubbleW {i : Nat} {oi : Oper} (hoi : ops[i]? = some oi) : ∀ {l1 l2 : List Nat}, (∀ j ∈ l1, ∃ oj, ops[j]? = some oj ∧ Indep ops news ex sl i j oi oj) → ∀ {env : Env} {σ : St} {e : Env} {s : St},
    RunsW P c n ops news ex sl (l1 ++ i :: l2) env σ e s → RunsW P c n ops news ex sl (i :: (l1 ++ l2)) env σ e s
  | [], l2, _, env, σ, e, s, h => h
  | j :: l1, l2, hl, env, σ, e, s, h => by
    obtain ⟨oj, hoj, hap⟩ := hl j (by simp)
    obtain ⟨o1, y1, nb1, e1, s1, a1, a3, a4, h5⟩ := h
    have ih := bubbleW hoi (l1 := l1) (l2 := l2) (fun j hj => hl j (by simp [hj])) h5
    exact swapW hoi hoj hap ⟨o1, y1, nb1, e1, s1, a1, a3, a4, ih⟩
theorem store_doesP (hp : ProgOk P c) {op : Oper} {t : Nat} {so xo : Operand} {p x0 : AV} {σ2 : St} (ho : op.op = .store t so xo)
    {w : World} {g : G} {a : Act} {env : Env} {σ : St} (hi : Inv w g σ) (he : RelEnv w g a env) (h1 : ev env so = some p) (h2 : ev env xo = some x0) (hsv : storeV c.te t p x0 σ = some σ2) : Does P op a w (fun v w' => ∃ g', Ext w g w' g' ∧ Rel w' g' v .top ∧ RelEnv w' g' a env ∧ Inv w' g' σ2) := by
  obtain ⟨w', q1, q2, q3, q4⟩ := store_sound hp.te hi (ev_rel he h1) (ev_rel he h2) hsv
  exact Does.skip (w' := w') (by simp [execOp, ho, q1]) ⟨g, q2, .top _, he.mono q4, q3⟩
theorem headW_sound {F : Fence} (hF : IsW F) (hp : ProgOk P c) (hD : DrawOk ops m) (hI : ∀ i oi, i < m → ops[i]? = some oi → ∀ j oj, j < i → ops[j]? = some oj → Pre ops j i ∨ Indep ops news ex sl i j oi oj) {K : Exit → Env → St → Prop} {w0 : World} {g0 : G} {e : Env} {s : St} (htl : hOps P n ops (ops.toList.drop m) e s (K .normal)) :
    ∀ (fuel : Nat) {listed : Array Bool} {rem : List Nat} {w : World} {g : G} {a : Act} {env : Env} {σ : St}, listed.size = ops.size → DC ops listed → (∀ i, m ≤ i → i < ops.size → ¬ Li listed i) →
    (∀ i, i ∈ rem ↔ i < m ∧ ¬ Li listed i) → rem.Pairwise (· < ·) → rem.length + (ops.size - m) ≤ fuel → RunsW P c n ops news ex sl rem env σ e s → Good n w g a env σ → Ext w0 g0 w g →
    wpAnyIn F 0 P .any ops (PostH n w0 g0 K) fuel listed a w := by
  intro fuel
  induction fuel with
  | zero =>
    intro listed rem w g a env σ hs hdc hhi hrem hsort hf hruns hg hx
    have hnil : rem = [] := List.eq_nil_of_length_eq_zero (by omega)
    subst hnil
    refine tail_sound hF hD 0 m (Nat.le_refl _) hD.le hs (fun i hi => ⟨fun h => ?_, fun h => ?_⟩) (by omega) htl (hg.eqv hruns.1 hruns.2) hx
    · exact Classical.byContradiction fun hc => hhi i (by omega) hi h
    · exact Classical.byContradiction fun hc => by have := (hrem i).2 ⟨h, hc⟩; simp at this
  | succ fuel ih =>
    intro listed rem w g a env σ hs hdc hhi hrem hsort hf hruns hg hx
    by_cases hnil : rem = []
    · subst hnil
      refine tail_sound hF hD (fuel + 1) m (Nat.le_refl _) hD.le hs (fun i hi => ⟨fun h => ?_, fun h => ?_⟩) (by simp at hf; omega) htl (hg.eqv hruns.1 hruns.2) hx
      · exact Classical.byContradiction fun hc => hhi i (by omega) hi h
      · exact Classical.byContradiction fun hc => by have := (hrem i).2 ⟨h, hc⟩; simp at this
    · obtain ⟨i0, rest, rfl⟩ : ∃ i0 rest, rem = i0 :: rest := List.exists_cons_of_ne_nil hnil
      have hm := hD.le
      obtain ⟨hi0, hn0⟩ := (hrem i0).1 (by simp)
      have hmin : ∀ j, j < i0 → Li listed j := fun j hj => Classical.byContradiction fun hc => by
        have := (hrem j).2 ⟨by omega, hc⟩
        simp at this
        rcases this with h' | h'
        · omega
        · have := (List.pairwise_cons.1 hsort).1 j h'; omega
      have ho0 : ops[i0]? = some ops[i0] := Array.getElem?_eq_getElem (by omega)
      have hin : i0 ∈ Region.ready .any ops listed := by
        rw [ready_iff hs]
        exact ⟨hn0, ops[i0], ho0, fun e he hb => hmin _ (hD.edge i0 _ ho0 e he hb)⟩
      refine ⟨fun hnil => by rw [hnil] at hin; simp at hin, fun i hi => ?_⟩
      rw [ready_iff hs] at hi
      obtain ⟨hn, o, ho, hr⟩ := hi
      have hisz : i < ops.size := by
        rcases Nat.lt_or_ge i ops.size with h | h
        · exact h
        · rw [Array.getElem?_eq_none h] at ho; cases ho
      have hr' : ∀ o2, ops[i]? = some o2 → ∀ e ∈ o2.after, Region.binds .any e = true → Li listed e.on := fun o2 ho2 => by rw [ho] at ho2; cases ho2; exact hr
      have him : i < m := Classical.byContradiction fun hc => hn0 (pre_ready hdc (hD.tail i (by omega) hisz i0 (by omega)) hr')
      have himem : i ∈ i0 :: rest := (hrem i).2 ⟨him, hn⟩
      obtain ⟨l1, l2, hsplit⟩ := List.append_of_mem himem
      rw [hsplit] at hruns hsort hrem hf
      have hlt : ∀ j ∈ l1, j < i := fun j hj => (List.pairwise_append.1 hsort).2.2 j hj i (by simp)
      have hgt : ∀ j ∈ l2, i < j := fun j hj => (List.pairwise_cons.1 (List.pairwise_append.1 hsort).2.1).1 j hj
      have hb := bubbleW ho (l1 := l1) (l2 := l2) (fun j hj => by
        obtain ⟨hjm, hjn⟩ := (hrem j).1 (by simp [hj])
        have hoj : ops[j]? = some ops[j] := Array.getElem?_eq_getElem (by omega)
        refine ⟨ops[j], hoj, ?_⟩
        rcases hI i o him ho j ops[j] (hlt j hj) hoj with h' | h'
        · exact absurd (pre_ready hdc h' hr') hjn
        · exact h') hruns
      obtain ⟨o2, y, nb, e1, s1, q1, q3, q4, q5⟩ := hb
      rw [ho] at q1; cases q1
      have hrem' : ∀ j, j ∈ l1 ++ l2 ↔ j < m ∧ ¬ Li (listed.setIfInBounds i true) j := by
        intro j
        rw [Li_set (by omega)]
        have hj := hrem j
        constructor
        · intro hmem
          have hne : j ≠ i := by
            rcases List.mem_append.1 hmem with h' | h'
            · have := hlt j h'; omega
            · have := hgt j h'; omega
          have := hj.1 (by rcases List.mem_append.1 hmem with h' | h' <;> simp [h'])
          exact ⟨this.1, fun hc => by rcases hc with h' | h'; exact hne h'; exact this.2 h'⟩
        · rintro ⟨h1, h2⟩
          have hne : j ≠ i := fun e => h2 (.inl e)
          have := hj.2 ⟨h1, fun hc => h2 (.inr hc)⟩
          simp at this ⊢
          rcases this with h' | h' | h'
          · exact .inl h'
          · exact absurd h' hne
          · exact .inr h'
      have hsort' : (l1 ++ l2).Pairwise (· < ·) := by
        refine List.pairwise_append.2 ⟨(List.pairwise_append.1 hsort).1, (List.pairwise_cons.1 (List.pairwise_append.1 hsort).2.1).2, fun x hx y hy => ?_⟩
        have := hlt x hx; have := hgt y hy; omega
      have hhi' : ∀ j, m ≤ j → j < ops.size → ¬ Li (listed.setIfInBounds i true) j := fun j hj hjs hc => by
        rw [Li_set (by omega)] at hc
        rcases hc with h' | h'
        · omega
        · exact hhi j hj hjs h'
      have hcont : ∀ {w' : World} {g' : G} {a' : Act} {env' : Env} {σ' : St}, (∀ t, look env' t = look e1 t) → (∀ b, look σ' b = look s1 b) → Good n w' g' a' env' σ' → Ext w0 g0 w' g' →
          wpAnyIn F 0 P .any ops (PostH n w0 g0 K) fuel (listed.setIfInBounds i true) a' w' := by
        intro w' g' a' env' σ' he1 hs1 hg1 hx1
        exact ih (by simp [hs]) (hdc.set (by omega) hr') hhi' hrem' hsort' (by simp at hf ⊢; omega) (q5.congr (fun t => (he1 t).symm) (fun b => (hs1 b).symm)) hg1 hx1
      have hputg : ∀ {w' : World} {g' : G} {v : Value} {σ' : St}, Good n w' g' a env σ' → Rel w' g' v y → (∀ b, look σ' b = look s1 b) → Ext w0 g0 w' g' →
          wpAnyIn F 0 P .any ops (PostH n w0 g0 K) fuel (listed.setIfInBounds i true) (a.put o.dst v) w' := by
        intro w' g' v σ' hg1 hrel hs1 hx1
        cases hd : o.dst with
        | none =>
          refine hcont (env' := env) (fun t => ?_) hs1 hg1 hx1
          rw [q4.1 t, hd]; simp
        | some d =>
          have hlt := q3.1 d hd
          have hput : putV n (some d) y env = some ((d, y) :: env) := by
            simp only [putV]
            have : Nat.blt d n = true := by simpa [Nat.blt_eq] using hlt
            rw [this]
          refine hcont (env' := (d, y) :: env) (fun t => ?_) hs1 (put_good hput hg1 hrel) hx1
          rw [q4.1 t, hd, look_cons]; simp
      refine wpOp_of hF ho ?_
      rcases q3.2 with ⟨hw, t, so, xo, p, x0, lab, B0, B1, r1, r2, r3, r4, r5, r6, r7, r8, r9⟩ | ⟨hw, cf, hcf, hst⟩ | ⟨hw, hy, hnb⟩ | ⟨hw, hwide⟩
      · refine .inl ⟨wantB_ok hg hw, ?_⟩
        refine store_doesP hp r1 hg.inv hg.env r3 r4 (r7 σ r6) F hF _ _ ?_
        rintro v w' ⟨g', k1, k2, k3, k4⟩
        subst r8
        refine hputg (σ' := upd σ lab B1) ⟨k3, k4, hg.defers.ext k1, hg.size⟩ k2 (fun b => ?_) (hx.trans k1)
        rw [q4.2 b, look_app1 r9, look_upd]
      · refine .inl ⟨wantB_ok hg hw, ?_⟩
        refine still_sound hp hcf hg.inv hg.env hst F hF _ _ ?_
        rintro v w' ⟨g', k1, k2, k3, k4⟩
        exact hputg (σ' := nb ++ σ) ⟨k4, k3, hg.defers.ext k1, hg.size⟩ k2 (fun b => (q4.2 b).symm) (hx.trans k1)
      · refine .inr ⟨wantB_ok hg hw, ?_⟩
        subst hy; subst hnb
        exact hputg (σ' := σ) hg (.t _ _ .undef) (fun b => (q4.2 b).symm) hx
      · refine .inl ⟨wantB_ok hg hw, ?_⟩
        refine wide_does hp hg.inv hg.env hwide F hF _ _ ?_
        rintro v w' ⟨g', k1, k2, k3, k4⟩
        exact hputg (σ' := nb ++ σ) ⟨k3, k4, hg.defers.ext k1, hg.size⟩ k2 (fun b => (q4.2 b).symm) (hx.trans k1)
end
end Go.Am

namespace Go.Am
/- two places that no edge orders -/
def bitN (m k : Nat) : Bool := Nat.beq ((m / 2 ^ k) % 2) 1
def unord (ms : List Nat) (i k : Nat) : Bool := !(Nat.beq i k) && (!(bitN (ms.getD i 0) k) && !(bitN (ms.getD k 0) i))
def exOf (ms : List Nat) (i : Nat) : List (Nat × Nat) → List Nat
  | [] => []
  | (k, lab) :: r => bif unord ms i k then lab :: exOf ms i r else exOf ms i r
def labsAt (i : Nat) : List (Nat × Nat) → List Nat
  | [] => []
  | (k, lab) :: r => bif Nat.beq k i then lab :: labsAt i r else labsAt i r
def touL (sl : List (Nat × Nat)) (i : Nat) (o : Oper) : List Nat := newLab o ++ labsAt i sl
def allIn (ls : List Nat) : List Nat → Bool
  | [] => true
  | l :: r => mem1 l ls && allIn ls r
def noneIn (ls : List Nat) : List Nat → Bool
  | [] => true
  | l :: r => !(mem1 l ls) && noneIn ls r
def pairOk (ms : List Nat) (news : List Nat) (sl : List (Nat × Nat)) (i j : Nat) (oi oj : Oper) : Bool :=
  (allIn (exOf ms i sl ++ news) (touL sl j oj) && noneIn (touL sl i oi) (touL sl j oj)) && allIn (exOf ms j sl ++ news) (touL sl i oi)
def rowOkW (ms : List Nat) (news : List Nat) (sl : List (Nat × Nat)) (i : Nat) (oi : Oper) : Nat → List Oper → Bool
  | _, [] => true
  | j, oj :: r => ((ms.getD i 0).testBit j || pairOk ms news sl i j oi oj) && rowOkW ms news sl i oi (j + 1) r
def headOkW (ms : List Nat) (news : List Nat) (sl : List (Nat × Nat)) (l : List Oper) : Nat → List Oper → Bool
  | _, [] => true
  | i, o :: r => rowOkW ms news sl i o 0 (l.take i) && headOkW ms news sl l (i + 1) r
theorem labsAt_mem {i l : Nat} : ∀ {sl : List (Nat × Nat)}, l ∈ labsAt i sl ↔ (i, l) ∈ sl
  | [] => by simp [labsAt]
  | (k, lab) :: r => by
    simp only [labsAt]
    cases h : Nat.beq k i with
    | true =>
      have e := Nat.eq_of_beq_eq_true h
      subst e
      simp only [cond_true, List.mem_cons, labsAt_mem (sl := r), Prod.mk.injEq, true_and]
    | false =>
      have e : k ≠ i := fun e => by subst e; simp at h
      simp only [cond_false, labsAt_mem (sl := r), List.mem_cons, Prod.mk.injEq]
      exact ⟨.inr, fun h => h.elim (fun h => absurd h.1.symm e) id⟩
theorem touL_iff {sl : List (Nat × Nat)} {i : Nat} {o : Oper} {l : Nat} : l ∈ touL sl i o ↔ Tou sl i o l := by
  simp only [touL, List.mem_append, labsAt_mem, Tou]
theorem allIn_ok {ls : List Nat} : ∀ {r : List Nat}, allIn ls r = true → ∀ l ∈ r, l ∈ ls
  | [], _, l, h => by simp at h
  | x :: r, hb, l, h => by
    simp only [allIn, Bool.and_eq_true] at hb
    rcases List.mem_cons.1 h with e | e
    · subst e; exact mem1_iff.1 hb.1
    · exact allIn_ok hb.2 l e
theorem noneIn_ok {ls : List Nat} : ∀ {r : List Nat}, noneIn ls r = true → ∀ l ∈ r, l ∉ ls
  | [], _, l, h => by simp at h
  | x :: r, hb, l, h => by
    simp only [noneIn, Bool.and_eq_true, Bool.not_eq_true'] at hb
    rcases List.mem_cons.1 h with e | e
    · subst e; exact fun hc => by rw [mem1_iff.2 hc] at hb; cases hb.1
    · exact noneIn_ok hb.2 l e
theorem rowOkW_get {ms news : List Nat} {sl : List (Nat × Nat)} {i : Nat} {oi : Oper} : ∀ {j0 : Nat} {l : List Oper}, rowOkW ms news sl i oi j0 l = true → ∀ j oj, l[j]? = some oj → (ms.getD i 0).testBit (j0 + j) = true ∨ pairOk ms news sl i (j0 + j) oi oj = true
  | j0, [], _, j, oj, h => by simp at h
  | j0, x :: r, hb, j, oj, h => by
    simp only [rowOkW, Bool.and_eq_true, Bool.or_eq_true] at hb
    cases j with
    | zero => simp at h; subst h; exact hb.1
    | succ j =>
      have := rowOkW_get hb.2 j oj (by simpa using h)
      rwa [show j0 + 1 + j = j0 + (j + 1) by omega] at this
theorem headOkW_get {ms news : List Nat} {sl : List (Nat × Nat)} {l0 : List Oper} : ∀ {i0 : Nat} {l : List Oper}, headOkW ms news sl l0 i0 l = true → ∀ i oi, l[i]? = some oi → rowOkW ms news sl (i0 + i) oi 0 (l0.take (i0 + i)) = true
  | i0, [], _, i, oi, h => by simp at h
  | i0, x :: r, hb, i, oi, h => by
    simp only [headOkW, Bool.and_eq_true] at hb
    cases i with
    | zero => simp at h; subst h; exact hb.1
    | succ i =>
      have := headOkW_get hb.2 i oi (by simpa using h)
      rwa [show i0 + 1 + i = i0 + (i + 1) by omega] at this
section
variable {P : Program} {c : Conf} {n m : Nat} {ops : Array Oper} {news : List Nat} {ex : Nat → List Nat} {sl : List (Nat × Nat)}
theorem indep_of (hD : DrawOk ops m) (h : headOkW (masks ops.toList []) news sl (ops.toList.take m) 0 (ops.toList.take m) = true) : ∀ i oi, i < m → ops[i]? = some oi → ∀ j oj, j < i → ops[j]? = some oj → Pre ops j i ∨ Indep ops news (fun i => exOf (masks ops.toList []) i sl) sl i j oi oj := by
  intro i oi hi hoi j oj hj hoj
  have h1 := headOkW_get h i oi (by rw [List.getElem?_take, if_pos hi, Array.getElem?_toList]; exact hoi)
  simp only [Nat.zero_add] at h1
  have h2 := rowOkW_get h1 j oj (by rw [List.getElem?_take, if_pos hj, List.getElem?_take, if_pos (by omega), Array.getElem?_toList]; exact hoj)
  simp only [Nat.zero_add] at h2
  rcases h2 with h2 | h2
  · exact .inl (masks_get _ _ h2)
  · rcases hD.head i oi hi hoi j oj hj hoj with h3 | h3
    · exact .inl h3
    · simp only [pairOk, Bool.and_eq_true] at h2
      refine .inr ⟨h3, fun l hl => ⟨allIn_ok h2.1.1 l (touL_iff.2 hl), fun hc => noneIn_ok h2.1.2 l (touL_iff.2 hl) (touL_iff.2 hc)⟩, fun l hl => allIn_ok h2.2 l (touL_iff.2 hl)⟩
def hSW (P : Program) (c : Conf) (n : Nat) (ops : Array Oper) (news : List Nat) (ex : Nat → List Nat) (sl : List (Nat × Nat)) : Nat → List Oper → Env → St → (Env → St → Prop) → Prop
  | _, [], env, σ, K => K env σ
  | i, o :: rest, env, σ, K => wantedH ops o env
      (fun env => (∃ cf x nb, CfOk P cf ∧ stillV c cf (ex i ++ news) o env σ = some (x, nb) ∧ putH n o.dst x env fun e2 => hSW P c n ops news ex sl (i + 1) rest e2 (nb ++ σ) K)
        ∨ (∃ t so xo p x0 lab B0 B1, o.op = .store t so xo ∧ o.dst = none ∧ ev env so = some p ∧ ev env xo = some x0 ∧ (i, lab) ∈ sl ∧ look σ lab = some B0 ∧ (∀ σ, look σ lab = some B0 → storeV c.te t p x0 σ = some (upd σ lab B1)) ∧ hSW P c n ops news ex sl (i + 1) rest env (upd σ lab B1) K)
        ∨ (∃ y nb, Wide P c sl i o env σ y nb ∧ putH n o.dst y env fun e2 => hSW P c n ops news ex sl (i + 1) rest e2 (nb ++ σ) K))
      (fun env => putH n o.dst (.t .undef) env fun e2 => hSW P c n ops news ex sl (i + 1) rest e2 σ K)
theorem hSW_runs {K : Env → St → Prop} : ∀ (l : List Oper) (i0 : Nat), (∀ j, j < l.length → l[j]? = ops[i0 + j]?) → ∀ {env : Env} {σ : St},
    hSW P c n ops news ex sl i0 l env σ K → ∃ e s, RunsW P c n ops news ex sl (List.range' i0 l.length) env σ e s ∧ K e s
  | [], i0, _, env, σ, h => ⟨env, σ, ⟨fun _ => rfl, fun _ => rfl⟩, h⟩
  | o :: rest, i0, hl, env, σ, h => by
    simp only [hSW] at h
    have ho : ops[i0]? = some o := by have := hl 0 (by simp); simpa using this.symm
    have hl' : ∀ j, j < rest.length → rest[j]? = ops[i0 + 1 + j]? := fun j hj => by
      have := hl (j + 1) (by simp; exact hj)
      simp at this
      rw [this]; congr 1; omega
    obtain ⟨env1, he1, hc⟩ := wantedH_spec h
    rcases hc with ⟨hw, ⟨cf, x, nb, hcf, hst, env2, hput, h⟩ | ⟨t, so, xo, p, x0, lab, B0, B1, r1, r2, r3, r4, r5, r6, r7, h⟩ | ⟨y, nb, ⟨cf, cl, f, as, r, σ2, ω, w1, w2, w3, w4, w5, w6, w7, w8, w9⟩, env2, hput, h⟩⟩ | ⟨hw, env2, hput, h⟩
    · obtain ⟨e, s, h1, h2⟩ := hSW_runs rest (i0 + 1) hl' h
      obtain ⟨p1, p2⟩ := putV_look hput he1
      refine ⟨e, s, ⟨o, x, nb, env2, nb ++ σ, ho, ⟨p1, .inr (.inl ⟨hw, cf, hcf, ?_⟩)⟩, ⟨p2, fun _ => rfl⟩, h1⟩, h2⟩
      rw [← hst]
      exact stillV_congr (ev_looks (ops := ops) fun t _ => (he1 t).symm) (fun _ _ => rfl) (fun _ _ => rfl)
    · obtain ⟨e, s, h1, h2⟩ := hSW_runs rest (i0 + 1) hl' h
      have hel : ∀ x ∈ o.op.operands, ev env1 x = ev env x := ev_looks (ops := ops) (o := o) fun t _ => he1 t
      refine ⟨e, s, ⟨o, .top, [(lab, B1)], env1, upd σ lab B1, ho, ⟨fun d hd => (by rw [r2] at hd; cases hd), .inl ⟨hw, t, so, xo, p, x0, lab, B0, B1, r1, r2, ?_, ?_, r5, r6, r7, rfl, rfl⟩⟩, ⟨fun t => by rw [r2]; simp [he1 t], fun b => by rw [look_upd, look_app1 rfl]⟩, h1⟩, h2⟩
      · rw [← hel so (by rw [r1]; simp [Op.operands])]; exact r3
      · rw [← hel xo (by rw [r1]; simp [Op.operands])]; exact r4
    · obtain ⟨e, s, h1, h2⟩ := hSW_runs rest (i0 + 1) hl' h
      obtain ⟨p1, p2⟩ := putV_look hput he1
      have hop : ∀ x ∈ cl.operands, ev env1 x = ev env x := fun x hx => ev_looks (ops := ops) (o := o) (fun t _ => he1 t) x (by rw [w2]; exact hx)
      exact ⟨e, s, ⟨o, y, nb, env2, nb ++ σ, ho, ⟨p1, .inr (.inr (.inr ⟨hw, cf, cl, f, as, r, σ2, ω, w1, w2, by rw [← calleeV_congr hop]; exact w3, w4, w5, w6, w7, w8, w9⟩))⟩, ⟨p2, fun _ => rfl⟩, h1⟩, h2⟩
    · obtain ⟨e, s, h1, h2⟩ := hSW_runs rest (i0 + 1) hl' h
      obtain ⟨p1, p2⟩ := putV_look hput he1
      exact ⟨e, s, ⟨o, .t .undef, [], env2, σ, ho, ⟨p1, .inr (.inr (.inl ⟨hw, rfl, rfl⟩))⟩, ⟨p2, fun _ => rfl⟩, h1⟩, h2⟩
/- the walk -/
theorem w_regW (hp : ProgOk P c) (sl : List (Nat × Nat)) {id : Nat} {env env' : Env} {σ σ' : St} {K : Exit → Env → St → Prop} {l1 l2 : List Oper} {nw : List Nat} {ms : List Nat} (hm : drawM ops = some m) (hz : regFrz ops env σ = (env', σ'))
    (h1 : ops.toList.take m = l1) (h2 : ops.toList.drop m = l2) (h3 : newsOf l1 = nw) (h4 : masks ops.toList [] = ms) (hchk : headOkW ms nw sl l1 0 l1 = true)
    (h : hSW P c n ops nw (fun i => exOf ms i sl) sl 0 l1 env' σ' (fun e s => hOps P n ops l2 e s (K .normal))) : Tr P n (.region id ops true) env σ K := by
  subst h4; subst h3; subst h1; subst h2
  have hD := drawM_ok hm
  intro F hF hrf w g0 a hg0
  obtain ⟨g, hx, hg⟩ := regFrz_sound hz hg0
  refine wpIn_mono ?_ fun ex a2 w2 (hq : PostH n w g K ex a2 w2) => hq.lift hx
  obtain ⟨e, s, q1, q2⟩ := hSW_runs (ops.toList.take m) 0 (fun j hj => by simp at hj; rw [List.getElem?_take, if_pos (by omega), Array.getElem?_toList, Nat.zero_add]) h
  refine wpIn_region_any hp.mix ?_
  have hlen : (ops.toList.take m).length = m := by have := hD.le; simp; omega
  rw [hlen] at q1
  refine headW_sound hF hp hD (indep_of hD hchk) q2 ops.size (by simp) (fun i o ho hl => ?_) (fun i h1 h2 hl => ?_) (rem := List.range' 0 m) (fun i => ?_) List.pairwise_lt_range' (by simp; have := hD.le; omega) q1 (hg.drew) (Ext.drew w g)
  · simp [Li, Array.getElem?_replicate] at hl
  · simp [Li, Array.getElem?_replicate] at hl
  · simp [Li, Array.getElem?_replicate, List.mem_range'_1]
end
end Go.Am

namespace Go.Am
def labOf : AV → Option Nat
  | .ref b _ => some b
  | .eref b _ _ _ => some b
  | _ => none
def storeB (te : TE) (t : Nat) (p x : AV) (lab : Nat) (B : Blk) : Option Blk :=
  match storeV te t p x [(lab, B)] with
  | some σ => look σ lab
  | none => none
theorem storeB_ok {te : TE} {t lab : Nat} {p x : AV} {B B1 : Blk} (hl : labOf p = some lab) (h : storeB te t p x lab B = some B1) : ∀ σ, look σ lab = some B → storeV te t p x σ = some (upd σ lab B1) := by
  intro σ hσ
  have hs : look [(lab, B)] lab = some B := by simp [look_cons]
  unfold storeB at h
  cases p with
  | ref b off =>
    simp only [labOf, Option.some.injEq] at hl; subst hl
    unfold storeV at h ⊢
    split at h
    · rename_i σ2 h2
      split at h2
      · rename_i ti hti
        split at h2
        · rename_i ys hys
          split at h2
          · rename_i hlen
            simp only [hs] at h2
            simp only [hσ]
            cases B with
            | cells cs =>
              simp only at h2 ⊢
              split at h2
              · rename_i ho
                cases h2
                rw [look_upd, if_pos rfl] at h; cases h
                rw [if_pos hlen, if_pos ho]
              · cases h2
            | _ => simp at h2
          · cases h2
        · cases h2
      · cases h2
    · cases h
  | eref b sz k off =>
    simp only [labOf, Option.some.injEq] at hl; subst hl
    unfold storeV at h ⊢
    split at h
    · rename_i σ2 h2
      split at h2
      · rename_i ti hti
        split at h2
        · rename_i ys hys
          split at h2
          · rename_i hlen
            simp only [hs] at h2
            simp only [hσ]
            cases B with
            | grow sz' es =>
              simp only at h2 ⊢
              split at h2
              · rename_i hz
                split at h2
                · rename_i e he
                  split at h2
                  · rename_i ts hts
                    split at h2
                    · rename_i ho
                      cases h2
                      rw [look_upd, if_pos rfl] at h; cases h
                      subst hz; rw [if_pos hlen, if_pos rfl, if_pos ho]
                    · cases h2
                  · cases h2
                · cases h2
              · cases h2
            | _ => simp at h2
          · cases h2
        · cases h2
      · cases h2
    · cases h
  | _ => simp [labOf] at hl
def memP (i lab : Nat) : List (Nat × Nat) → Bool
  | [] => false
  | (j, l) :: r => bif Nat.beq j i && Nat.beq l lab then true else memP i lab r
theorem memP_ok {i lab : Nat} : ∀ {sl : List (Nat × Nat)}, memP i lab sl = true → (i, lab) ∈ sl
  | [], h => by simp [memP] at h
  | (j, l) :: r, h => by
    simp only [memP] at h
    cases hb : Nat.beq j i && Nat.beq l lab with
    | true =>
      simp only [Bool.and_eq_true] at hb
      have e1 := Nat.eq_of_beq_eq_true hb.1
      have e2 := Nat.eq_of_beq_eq_true hb.2
      subst e1; subst e2; exact List.mem_cons_self ..
    | false => rw [hb] at h; simp only [cond_false] at h; exact List.mem_cons_of_mem _ (memP_ok h)
section
variable {P : Program} {c : Conf} {n i : Nat} {ops : Array Oper} {news : List Nat} {ex : Nat → List Nat} {sl : List (Nat × Nat)} {rest : List Oper} {env : Env} {σ : St} {o : Oper} {K : Env → St → Prop}
theorem z_nil (h : K env σ) : hSW P c n ops news ex sl i [] env σ K := h
theorem z_one {nw : List Nat} {j : Nat} (hn : ex i ++ news = nw) (hj : i + 1 = j) (h : hSK P c n ops nw [o] env σ (fun e s => hSW P c n ops news ex sl j rest e s K)) : hSW P c n ops news ex sl i (o :: rest) env σ K := by
  subst hn; subst hj
  simp only [hSK] at h
  simp only [hSW]
  unfold wantedH at h ⊢
  have a1 : ∀ e, (∃ cf x nb, CfOk P cf ∧ stillV c cf (ex i ++ news) o e σ = some (x, nb) ∧ putH n o.dst x e fun e2 => hSW P c n ops news ex sl (i + 1) rest e2 (nb ++ σ) K) → ((∃ cf x nb, CfOk P cf ∧ stillV c cf (ex i ++ news) o e σ = some (x, nb) ∧ putH n o.dst x e fun e2 => hSW P c n ops news ex sl (i + 1) rest e2 (nb ++ σ) K)
        ∨ (∃ t so xo p x0 lab B0 B1, o.op = .store t so xo ∧ o.dst = none ∧ ev e so = some p ∧ ev e xo = some x0 ∧ (i, lab) ∈ sl ∧ look σ lab = some B0 ∧ (∀ σ, look σ lab = some B0 → storeV c.te t p x0 σ = some (upd σ lab B1)) ∧ hSW P c n ops news ex sl (i + 1) rest e (upd σ lab B1) K)
        ∨ (∃ y nb, Wide P c sl i o e σ y nb ∧ putH n o.dst y e fun e2 => hSW P c n ops news ex sl (i + 1) rest e2 (nb ++ σ) K)) := fun e h => .inl h
  split at h
  · exact a1 _ h
  · split at h
    · split at h
      · split at h
        · exact ⟨fun e => a1 _ (h.1 e), fun e => h.2 e⟩
        · exact h
        · exact h
      · exact h
    · exact h
theorem z_store {t lab j : Nat} {so xo : Operand} {p x0 : AV} {B0 B1 : Blk} {s : St} (hg : o.guard = none) (ho : o.op = .store t so xo) (hd : o.dst = none) (h1 : ev env so = some p) (h2 : ev env xo = some x0) (hl : labOf p = some lab) (hm : memP i lab sl = true) (hb : look σ lab = some B0)
    (hs : storeB c.te t p x0 lab B0 = some B1) (hu : upd σ lab B1 = s) (hj : i + 1 = j) (h : hSW P c n ops news ex sl j rest env s K) : hSW P c n ops news ex sl i (o :: rest) env σ K := by
  subst hu; subst hj
  simp only [hSW, wantedH, hg]
  exact .inr (.inl ⟨t, so, xo, p, x0, lab, B0, B1, ho, hd, h1, h2, memP_ok hm, hb, storeB_ok hl hs, h⟩)
end
end Go.Am

namespace Go.Am
/- data that speaks of no memory: scalars, slices of no length -/
mutual
def scalU : T → Bool
  | .undef => true
  | .bool _ => true
  | .int _ _ => true
  | .str _ => true
  | .nilIface => true
  | .nilPtr => true
  | .nilFunc => true
  | .nilMap => true
  | .slice _ _ [] => true
  | .agg l => scalUL l
  | .tuple l => scalUL l
  | _ => false
def scalUL : List T → Bool
  | [] => true
  | x :: r => scalU x && scalUL r
end
theorem scalUL_get : ∀ {l : List T}, scalUL l = true → ∀ (i : Nat) x, l[i]? = some x → scalU x = true
  | [], _, i, x, h => by simp at h
  | y :: r, hs, i, x, h => by
    simp only [scalUL, Bool.and_eq_true] at hs
    cases i with
    | zero => simp at h; subst h; exact hs.1
    | succ i => simp at h; exact scalUL_get hs.2 i x h
theorem scalU_any {w w' : World} {M M' : Nat → Nat → Prop} {v : Value} {x : T} (h : RelT w M v x) : scalU x = true → RelT w' M' v x := by
  induction h with
  | undef => exact fun _ => .undef
  | bool b => exact fun _ => .bool b
  | int k n => exact fun _ => .int k n
  | str s => exact fun _ => .str s
  | nilPtr => exact fun _ => .nilPtr
  | nilIface => exact fun _ => .nilIface
  | nilFunc => exact fun _ => .nilFunc
  | nilMap => exact fun _ => .nilMap
  | sliceNil m sz => exact fun _ => .sliceNil m sz
  | sliceZ a m sz hm => exact fun _ => .sliceZ a m sz hm
  | slice b off len cap m sz es vs hl hc hf hm hp hsz hone hcell hrel ih =>
    intro hs
    cases es with
    | nil => exact .slice b off len cap m sz [] vs hl hc hf hm hp hsz hone (fun i x hx => by simp at hx) (fun i x hx => by simp at hx)
    | cons a b => simp [scalU] at hs
  | agg vs xs h _ ih => intro hs; simp only [scalU] at hs; exact .agg vs xs h (fun i v x a b => ih i v x a b (scalUL_get hs i x b))
  | tuple vs xs h _ ih => intro hs; simp only [scalU] at hs; exact .tuple vs xs h (fun i v x a b => ih i v x a b (scalUL_get hs i x b))
  | ptr => intro hs; simp [scalU] at hs
  | iface => intro hs; simp [scalU] at hs
  | func => intro hs; simp [scalU] at hs
/- scalars, and rows of one's own -/
mutual
def scalR : AV → Bool
  | .t x => scalU x
  | .row _ _ _ _ => true
  | .agg l => scalRL l
  | .tuple l => scalRL l
  | _ => false
def scalRL : List AV → Bool
  | [] => true
  | x :: r => scalR x && scalRL r
end
theorem scalRL_get : ∀ {l : List AV}, scalRL l = true → ∀ (i : Nat) x, l[i]? = some x → scalR x = true
  | [], _, i, x, h => by simp at h
  | y :: r, hs, i, x, h => by
    simp only [scalRL, Bool.and_eq_true] at hs
    cases i with
    | zero => simp at h; subst h; exact hs.1
    | succ i => simp at h; exact scalRL_get hs.2 i x h
def scalTs : List (List T) → Bool
  | [] => true
  | e :: r => scalUL e && scalTs r
def scalS : St → Bool
  | [] => true
  | (_, B) :: r => (match B with
    | .grow _ es => scalTs es
    | _ => false) && scalS r
theorem scalUL_mem : ∀ {l : List T}, scalUL l = true → ∀ x ∈ l, scalU x = true
  | [], _, x, h => by simp at h
  | y :: r, hs, x, h => by
    simp only [scalUL, Bool.and_eq_true] at hs
    rcases List.mem_cons.1 h with e | e
    · subst e; exact hs.1
    · exact scalUL_mem hs.2 x e
theorem scalTs_mem : ∀ {l : List (List T)}, scalTs l = true → ∀ x ∈ l.flatten, scalU x = true
  | [], _, x, h => by simp at h
  | y :: r, hs, x, h => by
    simp only [scalTs, Bool.and_eq_true] at hs
    rw [List.flatten_cons, List.mem_append] at h
    rcases h with h | h
    · exact scalUL_mem hs.1 x h
    · exact scalTs_mem hs.2 x h
theorem scalS_look : ∀ {σ : St}, scalS σ = true → ∀ b B, look σ b = some B → ∃ sz es, B = .grow sz es ∧ scalTs es = true
  | [], _, b, B, h => by simp [look] at h
  | (c, C) :: r, hs, b, B, h => by
    simp only [scalS, Bool.and_eq_true] at hs
    rw [look_cons] at h
    split at h
    · cases h
      cases C with
      | grow sz es => exact ⟨sz, es, rfl, hs.1⟩
      | _ => simp at hs
    · exact scalS_look hs.2 b B h
theorem scalR_any {w : World} {g g' : G} (hβ : g'.β = g.β) {v : Value} {x : AV} (h : Rel w g v x) : scalR x = true → Rel w g' v x := by
  induction h with
  | t v x h => intro hs; exact .t v x (scalU_any h hs)
  | agg vs xs h _ ih => intro hs; simp only [scalR] at hs; exact .agg vs xs h (fun i v x a b => ih i v x a b (scalRL_get hs i x b))
  | tuple vs xs h _ ih => intro hs; simp only [scalR] at hs; exact .tuple vs xs h (fun i v x a b => ih i v x a b (scalRL_get hs i x b))
  | row c s lo len blk o cap e0 n h hs' ho hl hn => intro _; exact .row c s lo len blk o cap e0 n (by rw [hβ]; exact h) hs' ho hl hn
  | rowNil c s a ha h => intro _; exact .rowNil c s a ha (by rw [hβ]; exact h)
  | top => intro hs; simp [scalR] at hs
  | ref => intro hs; simp [scalR] at hs
  | eref => intro hs; simp [scalR] at hs
  | mref => intro hs; simp [scalR] at hs
  | iface => intro hs; simp [scalR] at hs
  | func => intro hs; simp [scalR] at hs
mutual
def lendX (σ : St) : AV → Option AV
  | .agg cs => match lendXL σ cs with
    | some ys => some (.agg ys)
    | none => none
  | .t x => some (.t x)
  | .row b sz lo n => lendA σ (.row b sz lo n)
  | _ => none
def lendXL (σ : St) : List AV → Option (List AV)
  | [] => some []
  | x :: r => match lendX σ x with
    | some y => match lendXL σ r with
      | some s => some (y :: s)
      | none => none
    | none => none
end
theorem lendXL_spec (σ : St) : ∀ {xs ys : List AV}, lendXL σ xs = some ys → ys.length = xs.length ∧ ∀ (i : Nat) x, xs[i]? = some x → ∃ y, ys[i]? = some y ∧ lendX σ x = some y
  | [], ys, h => by simp [lendXL] at h; subst h; exact ⟨rfl, fun i x hx => by simp at hx⟩
  | x :: r, ys, h => by
    simp only [lendXL] at h
    cases hy : lendX σ x with
    | none => rw [hy] at h; simp at h
    | some y =>
      rw [hy] at h
      cases hs : lendXL σ r with
      | none => rw [hs] at h; simp at h
      | some s =>
        rw [hs] at h
        simp at h; subst h
        obtain ⟨h1, h2⟩ := lendXL_spec σ hs
        refine ⟨by simp [h1], fun i z hz => ?_⟩
        cases i with
        | zero => simp at hz; subst hz; exact ⟨y, rfl, hy⟩
        | succ i => simp at hz; obtain ⟨y2, q1, q2⟩ := h2 i z hz; exact ⟨y2, by simpa using q1, q2⟩
/- what a call is lent is what the lender has; the lent blocks are no one's meanwhile -/
def LentOk (g g2 : G) (σ : St) : Prop := (∀ blk o, g2.M blk o → g.M blk o) ∧ ∀ b sz es blk, look σ b = some (.grow sz es) → g.β b = some (some blk) → ∀ o, ¬ g2.M blk o
theorem lendA_relG {w : World} {g g2 : G} {σ : St} (hi : Inv w g σ) (hM : LentOk g g2 σ) {v : Value} {x y : AV} (h : lendA σ x = some y) (hr : Rel w g v x) : Rel w g2 v y := by
  have hk : Keeps w g.M w g2.M := fun b o u h1 h2 => ⟨fun h => h1 (hM.1 _ _ h), h2⟩
  cases x with
  | t x => simp [lendA] at h; subst h; exact .t _ _ ((rel_t_inv hr).mono hk)
  | row b sz lo n =>
    simp only [lendA] at h
    cases hb : look σ b with
    | none => rw [hb] at h; simp at h
    | some B =>
      rw [hb] at h
      cases B with
      | cells => simp at h
      | loop => simp at h
      | mp => simp at h
      | rights => simp at h
      | grow sz' es =>
        simp only at h
        cases hq : (Nat.beq sz sz' && (Nat.beq lo 0 && Nat.ble n es.length)) with
        | false => rw [hq] at h; simp at h
        | true =>
          rw [hq] at h
          simp only [cond_true, Option.some.injEq] at h
          subst h
          simp only [Bool.and_eq_true] at hq
          obtain ⟨h1, h2, h3⟩ := hq
          have h1 := Nat.eq_of_beq_eq_true h1
          have h2 := Nat.eq_of_beq_eq_true h2
          have h3 : n ≤ es.length := by simpa using h3
          subst h1; subst h2
          obtain ⟨hsz, hor⟩ := hi.ok b _ hb
          cases hr with
          | rowNil _ _ a ha hβ =>
            refine .t _ _ ?_
            cases a with
            | none => simpa using RelT.sliceNil (w := w) (M := g2.M) .any sz
            | some a => simpa using RelT.sliceZ (w := w) (M := g2.M) a .any sz (by simp)
          | row _ _ _ _ blk o cap e m hβ hs ho hl hn =>
            rcases hor with ⟨q1, q2⟩ | ⟨blk', u, e', k1, k2, k3, k4, k5⟩
            · rw [q1] at hβ; cases hβ
            rw [k1] at hβ; cases hβ
            refine .t _ _ (slice_mk (by simp; omega) hl (fun h => by cases h) (by simp) (fun e he => hsz e (List.mem_of_mem_take he)) (fun i x hx => ?_))
            have hflat : es.flatten[i]? = some x := by
              have := flat_drop_take sz es hsz 0 n i x (by simpa using hx)
              simpa using this
            have hnn : n ≠ 0 := fun e => by subst e; simp at hx
            have ho' : o = 0 := by rcases ho with h | h <;> omega
            subst ho'
            have hlt : i < u.size := Nat.lt_of_lt_of_le (get_of_lt hflat) k4
            have hv : u[i]? = some u[i] := by simp [hlt]
            obtain ⟨q1, q2⟩ := k5 i _ x hv hflat
            exact ⟨hM.2 b sz es _ hb k1 _, q1, u[i], by simp [World.cell?, k3, hlt], q2.mono hk⟩
  | top => simp [lendA] at h
  | ref => simp [lendA] at h
  | eref => simp [lendA] at h
  | mref => simp [lendA] at h
  | iface => simp [lendA] at h
  | func => simp [lendA] at h
  | agg => simp [lendA] at h
  | tuple => simp [lendA] at h
theorem lendX_rel {w : World} {g g2 : G} {σ : St} (hi : Inv w g σ) (hM : LentOk g g2 σ) {v : Value} {x : AV} (hr : Rel w g v x) : ∀ {y : AV}, lendX σ x = some y → Rel w g2 v y := by
  have hp := hr
  induction hr with
  | t v x h => intro y hy; simp only [lendX] at hy; exact lendA_relG hi hM (x := .t x) (by simpa [lendA] using hy) (.t _ _ h)
  | row c s lo len blk o cap e0 n h hs' ho hl hn => intro y hy; simp only [lendX] at hy; exact lendA_relG hi hM hy hp
  | rowNil c s a ha h => intro y hy; simp only [lendX] at hy; exact lendA_relG hi hM hy hp
  | agg vs xs h hh ih =>
    intro y hy
    simp only [lendX] at hy
    split at hy
    · rename_i ys hys
      cases hy
      obtain ⟨h1, h2⟩ := lendXL_spec σ hys
      refine .agg vs ys (by rw [h1]; exact h) fun i v y hv hyi => ?_
      have hlt : i < xs.length := by rw [← h1]; exact (List.getElem?_eq_some_iff.1 hyi).1
      obtain ⟨y2, q1, q2⟩ := h2 i xs[i] (List.getElem?_eq_getElem hlt)
      rw [hyi] at q1; cases q1
      exact ih i v _ hv (List.getElem?_eq_getElem hlt) (hh i v _ hv (List.getElem?_eq_getElem hlt)) q2
    · cases hy
  | _ => intro y hy; simp [lendX] at hy
theorem lendXL_rel {w : World} {g g2 : G} {σ : St} (hi : Inv w g σ) (hM : LentOk g g2 σ) {xs ys : List AV} {vs : List Value} (h : lendXL σ xs = some ys) (hr : RelL w g vs xs) : RelL w g2 vs ys := by
  obtain ⟨h1, h2⟩ := lendXL_spec σ h
  refine ⟨by rw [h1]; exact hr.1, fun i v y hv hy => ?_⟩
  have hlt : i < xs.length := by rw [← h1]; exact (List.getElem?_eq_some_iff.1 hy).1
  obtain ⟨y2, q1, q2⟩ := h2 i xs[i] (List.getElem?_eq_getElem hlt)
  rw [hy] at q1; cases q1
  exact lendX_rel hi hM (hr.2 i v _ hv (List.getElem?_eq_getElem hlt)) q2
def lentB (g : G) (σ : St) (blk : Nat) : Prop := ∃ b sz es, look σ b = some (.grow sz es) ∧ g.β b = some (some blk)
def G.lendW (g : G) (ω : List (Nat × Nat)) (σ : St) : G := { g.sub [] ω [] with oth := fun blk o => (g.sub [] ω []).oth blk o ∧ ¬ lentB g σ blk }
theorem sub_nown {g : G} {ω : List (Nat × Nat)} {blk : Nat} : ¬ (g.sub [] ω []).own blk := by
  rintro (⟨b, c, h, _⟩ | ⟨c, L, e, h, _⟩) <;> simp [look] at h
theorem w_callLendW {P : Program} {c : Conf} {n : Nat} {ops : Array Oper} {rest : List Oper} {env : Env} {σ : St} {o : Oper} {k : Env → St → Prop} (hp0 : ProgOk P c) {cl : Call} {f : Nat} {as ys : List AV} {e2 : Env} {r : AV} {σ2 : St} {ω : List (Nat × Nat)} (hg : o.guard = none) (ho : o.op = .call cl) (hc : calleeV c env cl = some (f, as))
    (hl : lendXL σ as = some ys) (hct : Ct P f ys [] r σ2) (hs : scalR r = true) (hS : scalS σ2 = true) (hR : chkR [] ω σ σ2 = true) (hp : putV n o.dst (mapA (look ω) r) env = some e2) (h : hOps P n ops rest e2 (outS ω σ2 ++ σ) k) : hOps P n ops (o :: rest) env σ k := by
  simp only [hOps, wantedH, hg]
  intro w g a hi hee
  have hR := chkR_ok hR
  obtain ⟨fn, hf, hb⟩ := hct.1
  obtain ⟨vs, hrun, hrel⟩ := callee_sound hp0 hee hc ho hf hb
  obtain ⟨i1, i2⟩ := sub_inv hi hR
  have hpk : pickS [] σ [] = [] := rfl
  rw [hpk] at i1 i2
  have hMs : ∀ blk o, (g.lendW ω σ).M blk o → (g.sub [] ω []).M blk o := fun blk o h => by
    rcases h with h | h
    · exact absurd h.1 (sub_nown (ω := ω))
    · exact .inr h.1
  have hM : LentOk g (g.lendW ω σ) σ := ⟨fun blk o h => (sub_M hi hR blk o).1 (hMs _ _ h), fun b sz es blk h1 h2 o h => by
    rcases h with h | h
    · exact absurd h.1 (sub_nown (ω := ω))
    · exact h.2 ⟨b, sz, es, h1, h2⟩⟩
  have i3 : Inv w (g.lendW ω σ) [] := ⟨fun b B h => by simp [look] at h, i1.dom, i1.inj, fun blk h => i1.lt blk (by
      rcases h with h | ⟨o, h⟩
      · exact .inl h
      · exact .inr ⟨o, h.1⟩), i1.bx, fun blk o h => absurd h (sub_nown (ω := ω)), fun p hp => ⟨fun h => (i1.im p hp).1 (hMs _ _ h), (i1.im p hp).2⟩, i1.lo, ⟨i1.sx.lt, i1.sx.bs, fun b b' L L' blk e e' h => by simp [look] at h, fun b L h => by simp [look] at h⟩⟩
  refine Does.enter hrun ((hct.2 vs w _ (lendXL_rel hi hM hl hrel) i3).mono ?_)
  rintro ed w' ⟨v, g1, rfl, q1, q2, q3⟩
  have hx : Ext w (g.sub [] ω []) w' { g1 with oth := (g.sub [] ω []).oth } := ⟨q1.size, q1.keep, q1.own, fun _ _ => Iff.rfl, q1.shape, q1.bx, q1.lo, q1.sp⟩
  have hno : ∀ blk o, g1.own blk → ¬ (g.sub [] ω []).oth blk o := fun blk o h1 h2 => by
    have hlt : blk < w.heap.size := i1.lt blk (.inr ⟨o, h2⟩)
    exact sub_nown (ω := ω) (q1.own blk hlt h1)
  have hi2 : Inv w' { g1 with oth := (g.sub [] ω []).oth } σ2 := by
    refine ⟨fun b B hB => ?_, q3.dom, q3.inj, fun blk h => ?_, q3.bx, hno, fun p hp => ⟨fun h => ?_, (q3.im p hp).2⟩, q3.lo, ⟨q3.sx.lt, q3.sx.bs, q3.sx.one, q3.sx.ok⟩⟩
    · obtain ⟨sz, es, rfl, hes⟩ := scalS_look hS b B hB
      obtain ⟨h0, h⟩ := q3.ok b _ hB
      refine ⟨h0, ?_⟩
      rcases h with h | ⟨blk, vs, e, h1, h2, h3, h4, h5⟩
      · exact .inl h
      · exact .inr ⟨blk, vs, e, h1, h2, h3, h4, fun i v x hv hx => ⟨(h5 i v x hv hx).1, scalU_any (h5 i v x hv hx).2 (scalTs_mem hes x (List.mem_of_getElem? hx))⟩⟩
    · rcases h with h | ⟨o, h⟩
      · exact q3.lt blk (.inl h)
      · exact Nat.lt_of_lt_of_le (i1.lt blk (.inr ⟨o, h⟩)) q1.size
    · rcases h with h | h
      · exact (q3.im p hp).1 (.inl h)
      · exact (i1.im p hp).1 (.inr h)
  obtain ⟨g', k1, k2, k3, k4⟩ := back_sound hi hR hx hi2
  rw [restS_nil] at k2
  have hk : ∀ b, keepF [] σ b = some b := fun b => by simp [keepF, look]
  refine ⟨v, rfl, mapA (look ω) r, env, _, ⟨g', k1, k3 v r (scalR_any (g := g1) (g' := { g1 with oth := (g.sub [] ω []).oth }) rfl q2 hs), k2, fun t x hx => ?_⟩, e2, hp, h⟩
  have := k4 _ _ (hee t x hx)
  rwa [mapA_id hk] at this
end Go.Am

namespace Go.Am
def addN (c : Nat) (l : List Nat) : List Nat := bif mem1 c l then l else c :: l
mutual
def addA : AV → List Nat → List Nat
  | .t _, l => l
  | .top, l => l
  | .ref c _, l => addN c l
  | .eref c _ _ _, l => addN c l
  | .mref c, l => addN c l
  | .row c _ _ _, l => addN c l
  | .iface _ x, l => addA x l
  | .func _ f c, l => addL f (addL c l)
  | .agg cs, l => addL cs l
  | .tuple cs, l => addL cs l
def addL : List AV → List Nat → List Nat
  | [], l => l
  | x :: r, l => addL r (addA x l)
end
def addEnv : Env → List Nat → List Nat
  | [], l => l
  | (_, x) :: r, l => addEnv r (addA x l)
def addB (B : Blk) (l : List Nat) : List Nat :=
  match B with
  | .cells cs => addL cs l
  | .loop _ _ _ _ _ _ _ e => addEnv e l
  | .mp _ xs => addL xs l
  | _ => l
def stepR (σ : St) : List Nat → List Nat → List Nat
  | [], l => l
  | b :: r, l => stepR σ r (match look σ b with
    | some B => addB B l
    | none => l)
def reachS (σ : St) : Nat → List Nat → List Nat
  | 0, l => l
  | m + 1, l => (fun l' => bif Nat.beq l'.length l.length then l' else reachS σ m l') (stepR σ l l)
def keysS : St → List Nat → List Nat
  | [], l => l
  | (b, _) :: r, l => keysS r (addN b l)
def oddN (c : Nat) : Bool := Nat.beq (c % 2) 1
def oddsOf : List Nat → List Nat
  | [] => []
  | b :: r => bif oddN b then b :: oddsOf r else oddsOf r
def deadOf (live : List Nat) : List Nat → List Nat
  | [] => []
  | b :: r => bif oddN b || mem1 b live then deadOf live r else b :: deadOf live r
def killAll (r : AV) : List Nat → St → Option St
  | [], σ => some σ
  | b :: l, σ => match r.has b with
    | true => none
    | false => killAll r l (killS b σ)
def evenL : List Nat → Bool
  | [] => true
  | b :: r => Nat.beq (b % 2) 0 && evenL r
def gcS (r : AV) (σ2 : St) : Option St :=
  (fun ks => (fun dead => match evenL dead with
    | true => killAll r dead σ2
    | false => none) (deadOf (reachS σ2 (ks.length + 1) (addA r (oddsOf ks))) ks)) (keysS σ2 [])
def iotaOf (σ : St) : List Nat → List (Nat × Nat)
  | [] => []
  | b :: r => match look σ b with
    | some _ => (b, 2 * b + 1) :: iotaOf σ r
    | none => iotaOf σ r
def swapP : List (Nat × Nat) → List (Nat × Nat)
  | [] => []
  | (a, b) :: r => (b, a) :: swapP r
def maxK : St → Nat → Nat
  | [], m => m
  | (b, _) :: r, m => maxK r (bif Nat.ble m b then b else m)
def evenOm (M : Nat) : List Nat → List (Nat × Nat)
  | [] => []
  | b :: r => bif oddN b then evenOm M r else (b, b + 2 * M) :: evenOm M r
def omegaOf (n : Nat) (ι : List (Nat × Nat)) (σ σ3 : St) : List (Nat × Nat) := swapP ι ++ evenOm (maxK σ n + 1) (keysS σ3 [])
def callRV (c : Conf) (cf : Nat → List AV → St → Option (AV × St)) (n : Nat) (cl : Call) (env : Env) (σ : St) : Option (AV × Env × St) :=
  match calleeV c env cl with
  | some (f, as) => (fun ι => match cf f (mapL (look ι) as) (pickS ι σ ι) with
    | some (r, σ2) => (match gcS r σ2 with
      | some σ3 => (fun ω => match chkR ι ω σ σ3 with
        | true => some (mapA (look ω) r, mapE (keepF ι σ) env, outS ω σ3 ++ restS ι σ σ)
        | false => none) (omegaOf n ι σ σ3)
      | none => none)
    | none => none) (iotaOf σ (reachS σ (σ.length + 1) (addL as [])))
  | none => none
-- lend what is handed to a call that hands scalars and rows of its own back
def lendRV (c : Conf) (cf : Nat → List AV → St → Option (AV × St)) (n : Nat) (cl : Call) (env : Env) (σ : St) : Option (AV × Env × St) :=
  match calleeV c env cl with
  | some (f, as) => (match lendXL σ as with
    | some ys => (match cf f ys [] with
      | some (r, σ2) => (match gcS r σ2 with
        | some σ3 => (fun ω => match scalR r && (scalS σ3 && chkR [] ω σ σ3) with
          | true => some (mapA (look ω) r, env, outS ω σ3 ++ σ)
          | false => none) (omegaOf n [] σ σ3)
        | none => none)
      | none => none)
    | none => none)
  | none => none
/- a call: to functions of c.own what they are handed is lent -/
def stepY (c : Conf) (cf : Nat → List AV → St → Option (AV × St)) (n : Nat) (o : Oper) (env : Env) (σ : St) : Option (AV × Env × St) :=
  match o.op with
  | .call cl => (match isB cl.callee with
    | true => stepV c cf o env σ
    | false => (match calleeV c env cl with
      | some (f, as) => (match freeL as with
        | true => callRV c cf n cl env σ
        | false => (match mem1 f c.own with
          | true => lendRV c cf n cl env σ
          | false => (match freeL (frzIn σ as env σ).1 with
            | true => stepV c cf o env σ
            | false => callRV c cf n cl env σ)))
      | none => none))
  | .buildSlice t m parts => (match stepV c cf o env σ with
    | some q => some q
    | none => (match o.dst with
      | some d => (match look σ (2 * d) with
        | none => (match bsCells c.te t m env parts.toList with
          | some cs => some (.row (2 * d) 1 0 m, env, (2 * d, .cells cs) :: σ)
          | none => none)
        | some _ => none)
      | none => none))
  | .load t xo => (match stepV c cf o env σ with
    | some q => some q
    | none => (match ev env xo with
      | some (.eref b sz kc 0) => (match sz with
        | 1 => (match look c.te t with
          | some ti => (match look σ b with
            | some (.cells cs) => (match cs[kc]? with
              | some y => (match ti.kind.agg with
                | false => some (y, env, σ)
                | true => none)
              | none => none)
            | _ => none)
          | none => none)
        | _ => none)
      | _ => none))
  | .slice t xo lo hi mx => (match stepV c cf o env σ with
    | some q => some q
    | none => (match ev env xo with
      | some (.t (.ptr cs)) => (match lo, mx with
        | none, none => (match look c.te t with
          | some ti => (match ti.kind with
            | .array m e => (match look c.te e with
              | some ei => (match boundV env hi m with
                | some h => (match Nat.ble (m * ei.size) cs.length && (!(Nat.beq m 0) && Nat.ble h m) with
                  | true => some (.t (.slice .any ei.size ((chunk ei.size m (cs.take (m * ei.size))).take h)), env, σ)
                  | false => none)
                | none => none)
              | none => none)
            | _ => none)
          | none => none)
        | _, _ => none)
      | _ => none))
  | _ => stepV c cf o env σ
/- a box is given away where it becomes an interface of a type that c.ownR names (1000000 + its number) -/
def preY (c : Conf) (o : Oper) (env : Env) (σ : St) : Env × St :=
  match o.op with
  | .makeInterface ty (.tmp t) => (match mem1 (1000000 + ty) c.ownR with
    | true => (match look env t with
      | some (.ref b 0) => (match Nat.beq (b % 2) 0 with
        | true => (match look σ b with
          | some (.cells cs) => (match allT cs with
            | some ts => (match ts.all oneT with
              | true => ((t, .t (.ptr ts)) :: frzE b ts.length [ts] env, frzS b ts.length [ts] σ)
              | false => (env, σ))
            | none => (env, σ))
          | _ => (env, σ))
        | false => (env, σ))
      | _ => (env, σ))
    | false => (env, σ))
  | _ => (env, σ)
def runOpsY {R : Type} (c : Conf) (cf : Nat → List AV → St → Option (AV × St)) (n : Nat) (ops : Array Oper) : List Oper → Env → St → (Env → St → Option R) → Option R
  | [], env, σ, k => k env σ
  | o :: rest, env, σ, k => wantedK ops o env (fun env => match stepY c cf n { o with guard := none } (preY c o env σ).1 (preY c o env σ).2 with
      | some (x, env1, σ1) => match putV n o.dst x env1 with
        | some env2 => runOpsY c cf n ops rest env2 σ1 k
        | none => none
      | none => none) (fun env => match putV n o.dst (.t .undef) env with
      | some env2 => runOpsY c cf n ops rest env2 σ k
      | none => none)
section
variable {P : Program} {c : Conf} {cf : Nat → List AV → St → Option (AV × St)} {R : Type}
theorem Ct.kills {f : Nat} {as : List AV} {σ : St} {r : AV} : ∀ (l : List Nat) {σ2 σ3 : St}, evenL l = true → Ct P f as σ r σ2 → killAll r l σ2 = some σ3 → Ct P f as σ r σ3
  | [], σ2, σ3, _, h, hk => by simp only [killAll, Option.some.injEq] at hk; subst hk; exact h
  | b :: l, σ2, σ3, he, h, hk => by
    simp only [killAll] at hk
    simp only [evenL, Bool.and_eq_true] at he
    split at hk
    · cases hk
    · rename_i hr
      refine Ct.kills l he.2 ?_ hk
      refine ⟨h.1, fun vs w g hrl hi => (h.2 vs w g hrl hi).mono ?_⟩
      rintro e w' ⟨v, g1, rfl, h1, h2, h3⟩
      have hb := Nat.eq_of_beq_eq_true he.1
      obtain ⟨k1, k2, _⟩ := kill h3 b (fun hb' => by have := (h3.bx _ hb').1; omega)
      exact ⟨v, g1.without b, rfl, h1.trans k1, h2.without hr, k2⟩
theorem gcS_ok {f : Nat} {as : List AV} {σ σ2 σ3 : St} {r : AV} (h : Ct P f as σ r σ2) (hg : gcS r σ2 = some σ3) : Ct P f as σ r σ3 := by
  unfold gcS at hg
  simp only at hg
  split at hg
  · rename_i he; exact Ct.kills _ he h hg
  · cases hg
theorem callRV_H (hp : ProgOk P c) (hcf : CfOk P cf) {n : Nat} {ops : Array Oper} {rest : List Oper} {o : Oper} {cl : Call} {env e e2 : Env} {σ s : St} {x : AV} {k : Env → St → Prop} (hg : o.guard = none) (ho : o.op = .call cl) (h : callRV c cf n cl env σ = some (x, e, s)) (hput : putV n o.dst x e = some e2) (hk : hOps P n ops rest e2 s k) :
    hOps P n ops (o :: rest) env σ k := by
  unfold callRV at h
  split at h
  · rename_i f as hc
    simp only at h
    split at h
    · rename_i r σ2 hr
      split at h
      · rename_i σ3 h3
        split at h
        · rename_i hchk
          cases h
          exact w_callR hp _ _ hg ho hc rfl rfl (gcS_ok (hcf _ _ _ _ _ hr) h3) hchk rfl rfl rfl hput hk
        · cases h
      · cases h
    · cases h
  · cases h
theorem lendRV_H (hp : ProgOk P c) (hcf : CfOk P cf) {n : Nat} {ops : Array Oper} {rest : List Oper} {o : Oper} {cl : Call} {env e e2 : Env} {σ s : St} {x : AV} {k : Env → St → Prop} (hg : o.guard = none) (ho : o.op = .call cl) (h : lendRV c cf n cl env σ = some (x, e, s)) (hput : putV n o.dst x e = some e2) (hk : hOps P n ops rest e2 s k) :
    hOps P n ops (o :: rest) env σ k := by
  unfold lendRV at h
  split at h
  · rename_i f as hc
    split at h
    · rename_i ys hy
      split at h
      · rename_i r σ2 hr
        split at h
        · rename_i σ3 h3
          simp only at h
          split at h
          · rename_i hchk
            simp only [Bool.and_eq_true] at hchk
            cases h
            exact w_callLendW hp hg ho hc hy (gcS_ok (hcf _ _ _ _ _ hr) h3) hchk.1 hchk.2.1 hchk.2.2 hput hk
          · cases h
        · cases h
      · cases h
    · cases h
  · cases h
theorem stepY_H (hp : ProgOk P c) (hcf : CfOk P cf) {n : Nat} {ops : Array Oper} {rest : List Oper} {o : Oper} {env e e2 : Env} {σ s : St} {x : AV} {k : Env → St → Prop} (hg : o.guard = none) (h : stepY c cf n o env σ = some (x, e, s)) (hput : putV n o.dst x e = some e2) (hk : hOps P n ops rest e2 s k) :
    hOps P n ops (o :: rest) env σ k := by
  have old : stepV c cf o env σ = some (x, e, s) → hOps P n ops (o :: rest) env σ k := fun hs => by
    simp only [hOps, wantedH, hg]
    exact hStep.of hp hcf hs ⟨e2, hput, hk⟩
  unfold stepY at h
  split at h
  · rename_i cl ho
    split at h
    · exact old h
    · split at h
      · split at h
        · exact callRV_H hp hcf hg ho h hput hk
        · split at h
          · exact lendRV_H hp hcf hg ho h hput hk
          · split at h
            · exact old h
            · exact callRV_H hp hcf hg ho h hput hk
      · cases h
  · rename_i t m parts ho
    split at h
    · rename_i q hq; exact old (hq.trans h)
    · split at h
      · rename_i d hd
        split at h
        · rename_i hl
          split at h
          · rename_i cs hcs
            simp only [Option.some.injEq, Prod.mk.injEq] at h
            obtain ⟨rfl, rfl, rfl⟩ := h
            exact w_bsCells hp hg ho hd hl hcs hput hk
          · cases h
        · cases h
      · cases h
  · rename_i t xo ho
    split at h
    · rename_i q hq; exact old (hq.trans h)
    · split at h
      · rename_i b sz kc hx
        split at h
        · split at h
          · rename_i ti hti
            split at h
            · rename_i cs hb
              split at h
              · rename_i y hy
                split at h
                · rename_i ha
                  simp only [Option.some.injEq, Prod.mk.injEq] at h
                  obtain ⟨rfl, rfl, rfl⟩ := h
                  exact w_loadEC hp hg ho hx hti hb hy ha hput hk
                · cases h
              · cases h
            · cases h
          · cases h
        · cases h
      · cases h
  · rename_i t xo lo hi mx ho
    split at h
    · rename_i q hq; exact old (hq.trans h)
    · split at h
      · rename_i cs hx
        split at h
        · split at h
          · rename_i ti hti
            split at h
            · rename_i m e hk'
              split at h
              · rename_i ei hei
                split at h
                · rename_i hb hh
                  split at h
                  · rename_i hchk
                    simp only [Bool.and_eq_true, Bool.not_eq_true'] at hchk
                    simp only [Option.some.injEq, Prod.mk.injEq] at h
                    obtain ⟨rfl, rfl, rfl⟩ := h
                    exact w_sliceP hp hg ho hx hti hk' hei (Nat.le_of_ble_eq_true hchk.1) (fun e => by rw [e] at hchk; simp at hchk) hh (Nat.le_of_ble_eq_true hchk.2.2) hput hk
                  · cases h
                · cases h
              · cases h
            · cases h
          · cases h
        · cases h
      · cases h
  · exact old h
theorem hOps_guard {n : Nat} {ops : Array Oper} {rest : List Oper} {o : Oper} {env : Env} {σ : St} {k : Env → St → Prop} (h : hOps P n ops ({ o with guard := none } :: rest) env σ k) : hStep P o env σ (fun x e s => putH n o.dst x e fun e2 => hOps P n ops rest e2 s k) := by
  simp only [hOps, wantedH] at h
  exact hStep_guard h
theorem preY_H {n : Nat} {ops : Array Oper} {rest : List Oper} {o : Oper} {env : Env} {σ : St} {k : Env → St → Prop} (hg : o.guard = none) (h : hOps P n ops (o :: rest) (preY c o env σ).1 (preY c o env σ).2 k) : hOps P n ops (o :: rest) env σ k := by
  unfold preY at h
  split at h
  · rename_i ty t ho
    split at h
    · split at h
      · rename_i b hl
        split at h
        · rename_i hev
          split at h
          · rename_i cs hb
            split at h
            · rename_i ts hts
              split at h
              · rename_i hone
                have hcs := allT_get hts
                subst hcs
                exact o_freezeBox t b hg (Nat.eq_of_beq_eq_true hev) hl hb hone h
              · exact h
            · exact h
          · exact h
        · exact h
      · exact h
    · exact h
  · exact h
theorem runOpsY_H (hp : ProgOk P c) (hcf : CfOk P cf) {n : Nat} {ops : Array Oper} {k : Env → St → Option R} {r : R} : ∀ (l : List Oper) {env : Env} {σ : St}, runOpsY c cf n ops l env σ k = some r → hOps P n ops l env σ (fun e s => k e s = some r)
  | [], env, σ, h => h
  | o :: rest, env, σ, h => by
    simp only [runOpsY] at h
    refine wantedK_H h (fun e h => ?_) (fun e h => ?_)
    · split at h
      · rename_i x e1 s1 hs
        split at h
        · rename_i e2 hput
          exact hOps_guard (preY_H (o := { o with guard := none }) rfl (stepY_H hp hcf rfl hs hput (runOpsY_H hp hcf rest h)))
        · cases h
      · cases h
    · split at h
      · rename_i e2 hput
        exact ⟨e2, hput, runOpsY_H hp hcf rest h⟩
      · cases h
end
end Go.Am

namespace Go.Am
def storeOf (te : TE) (o : Oper) (env : Env) (σ : St) : Option (Option (Nat × Blk)) :=
  match o.op with
  | .store t so xo => (match o.dst with
    | none => (match ev env so with
      | some p => (match ev env xo with
        | some x0 => (match labOf p with
          | some lab => (match look σ lab with
            | some B0 => (match storeB te t p x0 lab B0 with
              | some B1 => some (some (lab, B1))
              | none => none)
            | none => none)
          | none => none)
        | none => none)
      | none => none)
    | some _ => none)
  | _ => some none
/- an operation of a head that is no store: its value, what it makes, and the labels that it makes beside its own -/
def wideV (n : Nat) (r : AV) (σ2 σ : St) : Option (AV × St × List Nat) :=
  match gcS r σ2 with
  | some σ3 => (fun ω => match wideOk ω σ3 && chkO [] σ ω with
    | true => some (mapA (look ω) r, outS ω σ3, valsN ω)
    | false => none) (evenOm (maxK σ n + 1) (keysS σ3 []))
  | none => none
def stillX (c : Conf) (cf : Nat → List AV → St → Option (AV × St)) (n : Nat) (news : List Nat) (o : Oper) (env : Env) (σ : St) : Option (AV × St × List Nat) :=
  match o.op with
  | .call cl => (match isB cl.callee with
    | true => (match stillV c cf news o env σ with
      | some (x, nb) => some (x, nb, [])
      | none => none)
    | false => (match calleeV c env cl with
      | some (f, as) => (match freeL as with
        | true => (match cf f as [] with
          | some (r, σ2) => (match r.free with
            | true => some (r, [], [])
            | false => (match handRow o.dst r σ2 σ with
              | some (x, nb) => some (x, nb, [])
              | none => wideV n r σ2 σ))
          | none => none)
        | false => none)
      | none => none))
  | _ => (match stillV c cf news o env σ with
    | some (x, nb) => some (x, nb, [])
    | none => none)
def pairL (i : Nat) : List Nat → List (Nat × Nat) → List (Nat × Nat)
  | [], acc => acc
  | b :: r, acc => (i, b) :: pairL i r acc
def allP (i : Nat) (sl : List (Nat × Nat)) : List Nat → Bool
  | [] => true
  | b :: r => memP i b sl && allP i sl r
/- the places that a head's stores meet, in the order as it is laid -/
def colSW (c : Conf) (cf : Nat → List AV → St → Option (AV × St)) (n : Nat) (ops : Array Oper) (news : List Nat) : Nat → List Oper → Env → St → List (Nat × Nat) → Option (List (Nat × Nat))
  | _, [], _, _, acc => some acc
  | i, o :: rest, env, σ, acc => wantedK ops o env (fun env => match storeOf c.te o env σ with
      | some (some (lab, B1)) => colSW c cf n ops news (i + 1) rest env (upd σ lab B1) ((i, lab) :: acc)
      | some none => (match stillX c cf n news o env σ with
        | some (x, nb, ls) => match putV n o.dst x env with
          | some env2 => colSW c cf n ops news (i + 1) rest env2 (nb ++ σ) (pairL i ls acc)
          | none => none
        | none => none)
      | none => none) (fun env => match putV n o.dst (.t .undef) env with
      | some env2 => colSW c cf n ops news (i + 1) rest env2 σ acc
      | none => none)
def runSW {R : Type} (c : Conf) (cf : Nat → List AV → St → Option (AV × St)) (n : Nat) (ops : Array Oper) (news : List Nat) (ex : Nat → List Nat) (sl : List (Nat × Nat)) : Nat → List Oper → Env → St → (Env → St → Option R) → Option R
  | _, [], env, σ, k => k env σ
  | i, o :: rest, env, σ, k => wantedK ops o env (fun env => match storeOf c.te o env σ with
      | some (some (lab, B1)) => (match memP i lab sl with
        | true => runSW c cf n ops news ex sl (i + 1) rest env (upd σ lab B1) k
        | false => none)
      | some none => (match stillX c cf n (ex i ++ news) o env σ with
        | some (x, nb, ls) => (match allP i sl ls with
          | true => (match putV n o.dst x env with
            | some env2 => runSW c cf n ops news ex sl (i + 1) rest env2 (nb ++ σ) k
            | none => none)
          | false => none)
        | none => none)
      | none => none) (fun env => match putV n o.dst (.t .undef) env with
      | some env2 => runSW c cf n ops news ex sl (i + 1) rest env2 σ k
      | none => none)
section
variable {P : Program} {c : Conf} {cf : Nat → List AV → St → Option (AV × St)} {R : Type}
theorem storeOf_some {te : TE} {o : Oper} {env : Env} {σ : St} {lab : Nat} {B1 : Blk} (h : storeOf te o env σ = some (some (lab, B1))) :
    ∃ t so xo p x0 B0, o.op = .store t so xo ∧ o.dst = none ∧ ev env so = some p ∧ ev env xo = some x0 ∧ look σ lab = some B0 ∧ (∀ σ, look σ lab = some B0 → storeV te t p x0 σ = some (upd σ lab B1)) := by
  unfold storeOf at h
  split at h
  · rename_i t so xo ho
    split at h
    · rename_i hd
      split at h
      · rename_i p hp
        split at h
        · rename_i x0 hx
          split at h
          · rename_i lab' hlab
            split at h
            · rename_i B0 hB
              split at h
              · rename_i B1' hs
                simp only [Option.some.injEq, Prod.mk.injEq] at h
                obtain ⟨rfl, rfl⟩ := h
                exact ⟨t, so, xo, p, x0, B0, ho, hd, hp, hx, hB, storeB_ok hlab hs⟩
              · cases h
            · cases h
          · cases h
        · cases h
      · cases h
    · cases h
  · simp at h
theorem allP_ok {i : Nat} {sl : List (Nat × Nat)} : ∀ {l : List Nat}, allP i sl l = true → ∀ b ∈ l, (i, b) ∈ sl
  | [], _, b, h => by simp at h
  | x :: r, h, b, hb => by
    simp only [allP, Bool.and_eq_true] at h
    rcases List.mem_cons.1 hb with e | e
    · subst e; exact memP_ok h.1
    · exact allP_ok h.2 b e
theorem chkO_vals {σ : St} : ∀ {ω : List (Nat × Nat)}, chkO [] σ ω = true → ∀ b ∈ valsN ω, look σ b = none
  | [], _, b, h => by simp [valsN] at h
  | (c', b') :: r, h, b, hb => by
    simp only [chkO, look, Bool.and_eq_true, Bool.or_eq_true] at h
    simp only [valsN, List.mem_cons] at hb
    rcases hb with e | e
    · subst e
      rcases h.1 with h' | h'
      · simp [optIs] at h'
      · simpa using h'.2
    · exact chkO_vals h.2 b e
theorem stillX_H (hcf : CfOk P cf) {n i : Nat} {sl : List (Nat × Nat)} {news : List Nat} {o : Oper} {env : Env} {σ nb : St} {x : AV} {ls : List Nat} (h : stillX c cf n news o env σ = some (x, nb, ls)) (hl : allP i sl ls = true) :
    stillV c cf news o env σ = some (x, nb) ∨ Wide P c sl i o env σ x nb := by
  have plain : (match stillV c cf news o env σ with
      | some (x, nb) => some (x, nb, ([] : List Nat))
      | none => none) = some (x, nb, ls) → stillV c cf news o env σ = some (x, nb) := fun h => by
    split at h
    · rename_i x' nb' hs; simp only [Option.some.injEq, Prod.mk.injEq] at h; obtain ⟨rfl, rfl, _⟩ := h; exact hs
    · cases h
  unfold stillX at h
  split at h
  · rename_i cl ho
    split at h
    · exact .inl (plain h)
    · rename_i hb
      split at h
      · rename_i f as hc
        split at h
        · rename_i hfr
          split at h
          · rename_i r σ2 hr
            have hst : ∀ q, (if r.free = true then some (r, ([] : St)) else handRow o.dst r σ2 σ) = some q → stillV c cf news o env σ = some q := fun q hq => by
              unfold stillV
              rw [ho]
              simp only
              cases hcl : cl.callee with
              | builtin bb => rw [hcl] at hb; simp [isB] at hb
              | value v => simp only [hc, hfr, hr]; rw [← hq]; cases r.free <;> simp
              | invoke a b => simp only [hc, hfr, hr]; rw [← hq]; cases r.free <;> simp
            split at h
            · rename_i hf
              simp only [Option.some.injEq, Prod.mk.injEq] at h
              obtain ⟨rfl, rfl, _⟩ := h
              exact .inl (hst _ (by rw [if_pos hf]))
            · rename_i hf
              split at h
              · rename_i x' nb' hh
                simp only [Option.some.injEq, Prod.mk.injEq] at h
                obtain ⟨rfl, rfl, _⟩ := h
                exact .inl (hst _ (by rw [if_neg (by rw [hf]; exact fun e => by cases e)]; exact hh))
              · unfold wideV at h
                split at h
                · rename_i σ3 hg
                  simp only at h
                  split at h
                  · rename_i hw
                    simp only [Bool.and_eq_true] at hw
                    simp only [Option.some.injEq, Prod.mk.injEq] at h
                    obtain ⟨rfl, rfl, rfl⟩ := h
                    exact .inr ⟨oneCf f as [] r σ3, cl, f, as, r, σ3, _, oneCf_ok (gcS_ok (hcf _ _ _ _ _ hr) hg), ho, hc, hfr, oneCf_at, hw.1, fun b hb => ⟨allP_ok hl b hb, chkO_vals hw.2 b hb⟩, rfl, rfl⟩
                  · cases h
                · cases h
          · cases h
        · cases h
      · cases h
  · exact .inl (plain h)
theorem runSW_H (hcf : CfOk P cf) {n : Nat} {ops : Array Oper} {news : List Nat} {ex : Nat → List Nat} {sl : List (Nat × Nat)} {k : Env → St → Option R} {r : R} : ∀ (i : Nat) (l : List Oper) {env : Env} {σ : St}, runSW c cf n ops news ex sl i l env σ k = some r → hSW P c n ops news ex sl i l env σ (fun e s => k e s = some r)
  | i, [], env, σ, h => h
  | i, o :: rest, env, σ, h => by
    simp only [runSW] at h
    refine wantedK_H h (fun e h => ?_) (fun e h => ?_)
    · split at h
      · rename_i lab B1 hs
        split at h
        · rename_i hm
          obtain ⟨t, so, xo, p, x0, B0, h1, h2, h3, h4, h5, h6⟩ := storeOf_some hs
          exact .inr (.inl ⟨t, so, xo, p, x0, lab, B0, B1, h1, h2, h3, h4, memP_ok hm, h5, h6, runSW_H hcf (i + 1) rest h⟩)
        · cases h
      · split at h
        · rename_i x nb ls hs
          split at h
          · rename_i hl
            split at h
            · rename_i e2 hput
              rcases stillX_H hcf hs hl with h1 | h1
              · exact .inl ⟨cf, x, nb, hcf, h1, e2, hput, runSW_H hcf (i + 1) rest h⟩
              · exact .inr (.inr ⟨x, nb, h1, e2, hput, runSW_H hcf (i + 1) rest h⟩)
            · cases h
          · cases h
        · cases h
      · cases h
    · split at h
      · rename_i e2 hput
        exact ⟨e2, hput, runSW_H hcf (i + 1) rest h⟩
      · cases h
theorem hSW_mono {n : Nat} {ops : Array Oper} {news : List Nat} {ex : Nat → List Nat} {sl : List (Nat × Nat)} {K K' : Env → St → Prop} (hK : ∀ e s, K e s → K' e s) : ∀ (i : Nat) (l : List Oper) {env : Env} {σ : St}, hSW P c n ops news ex sl i l env σ K → hSW P c n ops news ex sl i l env σ K'
  | i, [], env, σ, h => hK _ _ h
  | i, o :: rest, env, σ, h => by
    simp only [hSW] at h ⊢
    unfold wantedH at h ⊢
    have a1 : ∀ e, ((∃ cf x nb, CfOk P cf ∧ stillV c cf (ex i ++ news) o e σ = some (x, nb) ∧ putH n o.dst x e fun e2 => hSW P c n ops news ex sl (i + 1) rest e2 (nb ++ σ) K)
        ∨ (∃ t so xo p x0 lab B0 B1, o.op = .store t so xo ∧ o.dst = none ∧ ev e so = some p ∧ ev e xo = some x0 ∧ (i, lab) ∈ sl ∧ look σ lab = some B0 ∧ (∀ σ, look σ lab = some B0 → storeV c.te t p x0 σ = some (upd σ lab B1)) ∧ hSW P c n ops news ex sl (i + 1) rest e (upd σ lab B1) K)
        ∨ (∃ y nb, Wide P c sl i o e σ y nb ∧ putH n o.dst y e fun e2 => hSW P c n ops news ex sl (i + 1) rest e2 (nb ++ σ) K)) →
        ((∃ cf x nb, CfOk P cf ∧ stillV c cf (ex i ++ news) o e σ = some (x, nb) ∧ putH n o.dst x e fun e2 => hSW P c n ops news ex sl (i + 1) rest e2 (nb ++ σ) K')
        ∨ (∃ t so xo p x0 lab B0 B1, o.op = .store t so xo ∧ o.dst = none ∧ ev e so = some p ∧ ev e xo = some x0 ∧ (i, lab) ∈ sl ∧ look σ lab = some B0 ∧ (∀ σ, look σ lab = some B0 → storeV c.te t p x0 σ = some (upd σ lab B1)) ∧ hSW P c n ops news ex sl (i + 1) rest e (upd σ lab B1) K')
        ∨ (∃ y nb, Wide P c sl i o e σ y nb ∧ putH n o.dst y e fun e2 => hSW P c n ops news ex sl (i + 1) rest e2 (nb ++ σ) K')) := by
      rintro e (⟨cf, x, nb, hcf, hs, e2, hput, h⟩ | ⟨t, so, xo, p, x0, lab, B0, B1, h1, h2, h3, h4, h5, h6, h7, h⟩ | ⟨y, nb, h1, e2, hput, h⟩)
      · exact .inl ⟨cf, x, nb, hcf, hs, e2, hput, hSW_mono hK (i + 1) rest h⟩
      · exact .inr (.inl ⟨t, so, xo, p, x0, lab, B0, B1, h1, h2, h3, h4, h5, h6, h7, hSW_mono hK (i + 1) rest h⟩)
      · exact .inr (.inr ⟨y, nb, h1, e2, hput, hSW_mono hK (i + 1) rest h⟩)
    have a2 : ∀ e, putH n o.dst (.t .undef) e (fun e2 => hSW P c n ops news ex sl (i + 1) rest e2 σ K) → putH n o.dst (.t .undef) e (fun e2 => hSW P c n ops news ex sl (i + 1) rest e2 σ K') := by
      rintro e ⟨e2, hput, h⟩
      exact ⟨e2, hput, hSW_mono hK (i + 1) rest h⟩
    split at h
    · exact a1 _ h
    · split at h
      · split at h
        · split at h
          · exact ⟨fun e => a1 _ (h.1 e), fun e => a2 _ (h.2 e)⟩
          · exact a2 _ h
          · exact h
        · exact h
      · exact h
/- one machine for all -/
def runRegS {R : Type} (c : Conf) (cf : Nat → List AV → St → Option (AV × St)) (n : Nat) (ops : Array Oper) (env : Env) (σ : St) (k : Exit → Env → St → Option R) : Option R :=
  match drawM ops with
  | some m => (match colSW c cf n ops (newsOf (ops.toList.take m)) 0 (ops.toList.take m) env σ [] with
    | some sl => (match headOkW (masks ops.toList []) (newsOf (ops.toList.take m)) sl (ops.toList.take m) 0 (ops.toList.take m) with
      | true => runSW c cf n ops (newsOf (ops.toList.take m)) (fun i => exOf (masks ops.toList []) i sl) sl 0 (ops.toList.take m) env σ (fun env σ => runOpsY c cf n ops (ops.toList.drop m) env σ (k .normal))
      | false => none)
    | none => none)
  | none => none
def isStoReg (ops : Array Oper) : Bool := match frontOf ops with
  | some _ => false
  | none => true
theorem runRegS_H (hp : ProgOk P c) (hcf : CfOk P cf) {n id : Nat} {ops : Array Oper} {r : R} {k : Exit → Env → St → Option R} {env0 : Env} {σ0 : St} (h : runRegS c cf n ops (regFrz ops env0 σ0).1 (regFrz ops env0 σ0).2 k = some r) : Tr P n (.region id ops true) env0 σ0 (fun ex e s => k ex e s = some r) := by
  unfold runRegS at h
  cases hm : drawM ops with
  | none => rw [hm] at h; cases h
  | some m =>
    rw [hm] at h
    simp only at h
    split at h
    · rename_i sl hsl
      split at h
      · rename_i hchk
        exact w_regW hp sl hm rfl rfl rfl rfl rfl hchk (hSW_mono (fun e s hh => runOpsY_H hp hcf _ hh) _ _ (runSW_H hcf _ _ h))
      · cases h
    · cases h
end
section
variable {P : Program}
-- a function that is ranged over yields nothing
def EmptyG (P : Program) (gf : Nat) (caps : List T) : Prop := ∀ {n : Nat} {env : Env} {σ : St} {gop : Operand} {ps : Array Tmp} {asg bd : Code} {K : Exit → Env → St → Prop}, ev env gop = some (.t (.func (.func gf) [] caps)) → K .normal (boxE σ env) (downS (upS σ)) → Tr P n (.rangeFunc gop ps asg bd) env σ K
def hasCallL : List Oper → Bool
  | [] => false
  | o :: r => match o.op with
    | .call cl => !(isB cl.callee) || hasCallL r
    | _ => hasCallL r
-- ahead of regions that draw and call: rows of single cells are given away as data
def frz1 : St → Env → St → Env × St
  | [], env, σ => (env, σ)
  | (b, _) :: r, env, σ => (match oddN b with
    | true => frz1 r env σ
    | false => (match look σ b with
      | some (.grow s es) => (match Nat.beq s 1 with
        | true => frz1 r (frzE b s es env) (frzS b s es σ)
        | false => frz1 r env σ)
      | _ => frz1 r env σ))
theorem Tr.frzOne {n : Nat} {code : Code} {env : Env} {σ : St} {K : Exit → Env → St → Prop} (b : Nat) {sz : Nat} {es : List (List T)} (hb : look σ b = some (.grow sz es)) (h : Tr P n code (frzE b sz es env) (frzS b sz es σ) K) : Tr P n code env σ K := by
  intro F hF hrf w g a hg
  obtain ⟨k1, k2, k3⟩ := freeze hg.inv hb
  refine wpIn_mono (h F hF hrf w _ a ⟨fun t x hx => ?_, k2, hg.defers.ext k1, hg.size⟩) fun ex a2 w2 hq => hq.lift k1
  rw [frzE_get] at hx
  cases hl : look env t with
  | none => simp [hl] at hx
  | some z => simp [hl] at hx; subst hx; exact k3 _ _ (hg.env t z hl)
theorem frz1_Tr {n : Nat} {code : Code} {K : Exit → Env → St → Prop} : ∀ (l : St) {env : Env} {σ : St}, Tr P n code (frz1 l env σ).1 (frz1 l env σ).2 K → Tr P n code env σ K
  | [], env, σ, h => h
  | (b, _) :: r, env, σ, h => by
    simp only [frz1] at h
    split at h
    · exact frz1_Tr r h
    · split at h
      · rename_i s es hb
        split at h
        · exact Tr.frzOne b hb (frz1_Tr r h)
        · exact frz1_Tr r h
      · exact frz1_Tr r h
-- what is left of an earlier round under the labels of a head's new blocks is forgotten
def killN : List Nat → Env → St → Env × St
  | [], env, σ => (env, σ)
  | b :: r, env, σ => (match oddN b with
    | true => killN r env σ
    | false => (match look σ b with
      | some _ => killN r (killE b env) (killS b σ)
      | none => killN r env σ))
theorem Tr.killOne {n : Nat} {code : Code} {env : Env} {σ : St} {K : Exit → Env → St → Prop} (b : Nat) (hb : oddN b = false) (h : Tr P n code (killE b env) (killS b σ) K) : Tr P n code env σ K := by
  intro F hF hrf w g a hg
  have hb2 : ¬ b % 2 = 1 := fun e => by simp [oddN, e] at hb
  obtain ⟨k1, k2, k3⟩ := kill hg.inv b (fun hb' => by have := (hg.inv.bx _ hb').1; omega)
  exact wpIn_mono (h F hF hrf w _ a ⟨k3 a env hg.env, k2, hg.defers.ext k1, hg.size⟩) fun ex a2 w2 hq => hq.lift k1
theorem killN_Tr {n : Nat} {code : Code} {K : Exit → Env → St → Prop} : ∀ (l : List Nat) {env : Env} {σ : St}, Tr P n code (killN l env σ).1 (killN l env σ).2 K → Tr P n code env σ K
  | [], env, σ, h => h
  | b :: r, env, σ, h => by
    simp only [killN] at h
    split at h
    · exact killN_Tr r h
    · rename_i hb
      split at h
      · exact Tr.killOne b hb (killN_Tr r h)
      · exact killN_Tr r h
def runY {R : Type} (c : Conf) (cf : Nat → List AV → St → Option (AV × St)) (eg : Nat → List T → Bool) (n : Nat) : Code → Env → St → (Exit → Env → St → Option R) → Option R
  | .skip, env, σ, k => k .normal env σ
  | .region id ops draw, env, σ, k => (match draw with
    | false => (fun q => runOpsY c cf n ops ops.toList (regFrz ops q.1 q.2).1 (regFrz ops q.1 q.2).2 (k .normal)) (frzBx (bif hasSlA c.te ops.toList then ops.toList else []) env σ)
    | true => (fun q => match isStoReg ops with
      | true => runRegS c cf n ops (regFrz ops q.1 q.2).1 (regFrz ops q.1 q.2).2 k
      | false => runCode c cf n (.region id ops true) q.1 q.2 k) ((fun q => killN (newsOf ops.toList) q.1 q.2) (frz1 (bif hasCallL ops.toList then σ else []) env σ)))
  | .seq a b, env, σ, k => runY c cf eg n a env σ (fun ex env σ => match ex with
    | .normal => runY c cf eg n b env σ k
    | ex => k ex env σ)
  | .cond x a b, env, σ, k => (match ev env x with
    | some (.t (.bool p)) => (match p with
      | true => runY c cf eg n a env σ k
      | false => runY c cf eg n b env σ k)
    | _ => none)
  | .block id b, env, σ, k => runY c cf eg n b env σ (fun ex env σ => match ex with
    | .exit i => (match Nat.beq i id with
      | true => k .normal env σ
      | false => k (.exit i) env σ)
    | ex => k ex env σ)
  | .loop b, env, σ, k => iter (fun env σ k => runY c cf eg n b env σ k) LF env σ k
  | .exit id, env, σ, k => k (.exit id) env σ
  | .ret, env, σ, k => k .ret env σ
  | .rangeFunc gop _ _ _, env, σ, k => (match ev env gop with
    | some (.t (.func (.func gf) [] caps)) => (match eg gf caps with
      | true => k .normal (boxE σ env) (downS (upS σ))
      | false => none)
    | _ => none)
  | _, _, _, _ => none
theorem runY_H {c : Conf} {cf : Nat → List AV → St → Option (AV × St)} {R : Type} {eg : Nat → List T → Bool} (hp : ProgOk P c) (hcf : CfOk P cf) (heg : ∀ gf caps, eg gf caps = true → EmptyG P gf caps) {n : Nat} {r : R} : ∀ (code : Code) {k : Exit → Env → St → Option R} {env : Env} {σ : St}, (∀ ch e s, k (.panic ch) e s ≠ some r) → runY c cf eg n code env σ k = some r → Tr P n code env σ (fun ex e s => k ex e s = some r)
  | .skip, k, env, σ, _, h => by
    simp only [runY] at h
    exact w_skip h
  | .region id ops draw, k, env0, σ0, hk, h => by
    simp only [runY] at h
    cases draw with
    | false => exact frzBx_Tr (bif hasSlA c.te ops.toList then ops.toList else []) (w_reg hp rfl rfl (runOpsY_H hp hcf _ h))
    | true =>
      simp only at h
      refine frz1_Tr (bif hasCallL ops.toList then σ0 else []) ?_
      refine killN_Tr (newsOf ops.toList) ?_
      split at h
      · exact runRegS_H hp hcf h
      · exact runCode_H hp hcf _ hk h
  | .seq x y, k, env, σ, hk, h => by
    simp only [runY] at h
    refine w_seq ((runY_H hp hcf heg x (by intro ch e s; exact hk ch e s) h).mono fun ex e s h3 => ?_)
    cases ex with
    | normal => exact runY_H hp hcf heg y hk h3
    | exit id => exact h3
    | goto l => exact h3
    | ret => exact h3
    | panic ch => exact h3
    | outgrown => exact h3
  | .cond x y z, k, env, σ, hk, h => by
    simp only [runY] at h
    split at h
    · rename_i p hb
      cases p with
      | true => exact w_condT hb (runY_H hp hcf heg y hk h)
      | false => exact w_condF hb (runY_H hp hcf heg z hk h)
    · cases h
  | .block id b, k, env, σ, hk, h => by
    simp only [runY] at h
    refine w_block ((runY_H hp hcf heg b (by intro ch e s; exact hk ch e s) h).mono fun ex e s h3 => ?_)
    cases ex with
    | exit i =>
      simp only at h3 ⊢
      cases hi : Nat.beq i id <;> simp only [hi] at h3 ⊢ <;> exact h3
    | normal => exact h3
    | goto l => exact h3
    | ret => exact h3
    | panic ch => exact h3
    | outgrown => exact h3
  | .loop b, k, env, σ, hk, h => by
    simp only [runY] at h
    exact iter_Tr hk (fun hk' hh => runY_H hp hcf heg b hk' hh) LF h
  | .exit id, k, env, σ, _, h => by
    simp only [runY] at h
    exact w_exit h
  | .ret, k, env, σ, _, h => by
    simp only [runY] at h
    exact w_ret h
  | .rangeFunc gop ps asg bd, k, env, σ, _, h => by
    simp only [runY] at h
    split at h
    · rename_i gf caps hg
      cases he : eg gf caps with
      | false => rw [he] at h; cases h
      | true => rw [he] at h; exact heg gf caps he hg h
    · cases h
  | .scope _, k, env, σ, _, h => by simp [runY] at h
  | .label _, k, env, σ, _, h => by simp [runY] at h
  | .goto _, k, env, σ, _, h => by simp [runY] at h
  | .refuse _, k, env, σ, _, h => by simp [runY] at h
-- here c.ownR names the functions whose answers are frozen
def callY (P : Program) (c : Conf) (eg : Nat → List T → Bool) : Nat → Nat → List AV → St → Option (AV × St)
  | 0, _, _, _ => none
  | d + 1, f, xs, σ => match c.sp f xs σ with
    | some r => some r
    | none => match P.funcs[f]? with
      | some fn => (match fn.body with
        | some code => bif Nat.ble xs.length fn.ntmps then runY c (callY P c eg d) eg fn.ntmps code (enterE 0 xs) σ (fun ex env σ => match ex with
          | .normal => retV c.te (!(mem1 f c.ownR)) fn.results.toList env σ
          | .ret => retV c.te (!(mem1 f c.ownR)) fn.results.toList env σ
          | _ => none) else none
        | none => none)
      | none => none
theorem callY_sound {c : Conf} {eg : Nat → List T → Bool} (hp : ProgOk P c) (heg : ∀ gf caps, eg gf caps = true → EmptyG P gf caps) : ∀ d, CfOk P (callY P c eg d)
  | 0 => by intro f as σ r σ' h; simp [callY] at h
  | d + 1 => by
    intro f as σ r σ' h
    simp only [callY] at h
    split at h
    · rename_i q hq
      simp at h; subst h
      exact hp.sp _ _ _ _ _ hq
    split at h
    · rename_i fn hf
      split at h
      · rename_i code hb
        cases hle : Nat.ble as.length fn.ntmps with
        | false => rw [hle] at h; simp at h
        | true =>
          rw [hle] at h
          simp only [cond_true] at h
          refine ct_of_Tr hp hf hb (!(mem1 f c.ownR)) hle ?_
          refine (runY_H hp (callY_sound hp heg d) heg code (fun ch e s => by simp) h).mono fun ex e s h3 => ?_
          cases ex with
          | normal => exact ⟨.inl rfl, r, h3, Sub.refl r⟩
          | ret => exact ⟨.inr rfl, r, h3, Sub.refl r⟩
          | exit id => cases h3
          | goto l => cases h3
          | panic ch => cases h3
          | outgrown => cases h3
      · cases h
    · cases h
theorem ctYB {c : Conf} {eg : Nat → List T → Bool} (hp : ProgOk P c) (heg : ∀ gf caps, eg gf caps = true → EmptyG P gf caps) (d : Nat) {f : Nat} {xs : List AV} {b : Bool} (h : (callY P c eg d f xs []).map (·.1) = some (.t (.bool b))) : Ct P f xs [] (.t (.bool b)) [] := by
  cases hc : callY P c eg d f xs [] with
  | none => rw [hc] at h; cases h
  | some q =>
    obtain ⟨r, σ2⟩ := q
    rw [hc] at h
    simp at h
    subst h
    obtain ⟨e, s, hz⟩ := frzIn_free (r := .t (.bool b)) (fun _ => rfl) σ2 [] σ2
    exact Ct.freeze (callY_sound hp heg d _ _ _ _ _ hc) hz rfl
end
end Go.Am
