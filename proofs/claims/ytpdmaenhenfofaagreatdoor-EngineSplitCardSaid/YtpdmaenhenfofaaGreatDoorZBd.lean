/- Regions that draw their order and hold one store into a cell of ours that no other operation of the head looks at. -/
import Derived.Test.YtpdmaenhenfofaaGreatDoorZBc
set_option linter.unusedVariables false
set_option linter.unusedSimpArgs false
namespace Go.Am
def isSt : Op → Bool
  | .store _ _ _ => true
  | _ => false
def stAlt (so xo : Operand) (s0 x0 : AV) : Oper → Env → Prop := fun o env => isSt o.op = true ∧ so ∈ o.op.operands ∧ xo ∈ o.op.operands ∧ ev env so = some s0 ∧ ev env xo = some x0
theorem stAlt_ok {ops : Array Oper} {so xo : Operand} {s0 x0 : AV} : AltOk ops (stAlt so xo s0 x0) := fun o env env' h ⟨h1, h2, h3, h4, h5⟩ =>
  ⟨h1, h2, h3, by rw [← ev_looks h so h2]; exact h4, by rw [← ev_looks h xo h3]; exact h5⟩
section
variable {P : Program} {c : Conf} {n m : Nat} {ops : Array Oper} {news : List Nat}
theorem still_st_none {cf : Nat → List AV → St → Option (AV × St)} {o : Oper} {env : Env} {σ : St} (h : isSt o.op = true) : stillV c cf news o env σ = none := by
  cases ho : o.op with
  | store t p x => unfold stillV; rw [ho]
  | _ => rw [ho] at h; simp [isSt] at h
theorem headS_sound {F : Fence} (hF : IsW F) (hp : ProgOk P c) (hD : DrawOk ops m) {K : Exit → Env → St → Prop} {w0 : World} {g0 : G} {e : Env} {s : St} {p lab : Nat} {op : Oper} {so xo : Operand} {s0 x0 : AV} {B0 B1 : Blk}
    (hop : ops[p]? = some op) (hpm : p < m) (hd : op.dst = none) (hgd : op.guard = none) (hst0 : isSt op.op = true) (hrn : lab ∈ news)
    (hsolo : ∀ i o, i < m → ops[i]? = some o → i ≠ p → isSt o.op = false ∧ lab ∉ newLab o)
    (hdo : ∀ {w : World} {g : G} {a : Act} {env : Env} {σ : St}, Inv w g σ → RelEnv w g a env → ev env so = some s0 → ev env xo = some x0 → look σ lab = some B0 → Does P op a w (fun v w' => ∃ g', Ext w g w' g' ∧ Rel w' g' v .top ∧ RelEnv w' g' a env ∧ Inv w' g' (upd σ lab B1)))
    (htl : hOps P n ops (ops.toList.drop m) e (upd s lab B1) (K .normal)) :
    ∀ (fuel : Nat) {listed : Array Bool} {rem : List Nat} {w : World} {g : G} {a : Act} {env : Env} {σ : St}, listed.size = ops.size → DC ops listed → (∀ i, m ≤ i → i < ops.size → ¬ Li listed i) →
    (∀ i, i ∈ rem ↔ i < m ∧ ¬ Li listed i) → rem.Pairwise (· < ·) → rem.length + (ops.size - m) ≤ fuel → Runs P c (stAlt so xo s0 x0) n ops news rem env σ e s → look σ lab = some B0 →
    (¬ Li listed p → Good n w g a env σ) → (Li listed p → Good n w g a env (upd σ lab B1)) → Ext w0 g0 w g →
    wpAnyIn F 0 P .any ops (PostH n w0 g0 K) fuel listed a w := by
  intro fuel
  induction fuel with
  | zero =>
    intro listed rem w g a env σ hs hdc hhi hrem hsort hf hruns hρ hg1 hg2 hx
    have hnil : rem = [] := List.eq_nil_of_length_eq_zero (by omega)
    subst hnil
    have hpl : Li listed p := Classical.byContradiction fun hc => by have := (hrem p).2 ⟨hpm, hc⟩; simp at this
    have hg := hg2 hpl
    have hgs : Good n w g a e (upd s lab B1) := hg.eqv (fun t => hruns.1 t) (fun b => by rw [look_upd, look_upd, hruns.2 b])
    refine tail_sound hF hD 0 m (Nat.le_refl _) hD.le hs (fun i hi => ⟨fun h => ?_, fun h => ?_⟩) (by omega) htl hgs hx
    · exact Classical.byContradiction fun hc => hhi i (by omega) hi h
    · exact Classical.byContradiction fun hc => by have := (hrem i).2 ⟨h, hc⟩; simp at this
  | succ fuel ih =>
    intro listed rem w g a env σ hs hdc hhi hrem hsort hf hruns hρ hg1 hg2 hx
    by_cases hnil : rem = []
    · subst hnil
      have hpl : Li listed p := Classical.byContradiction fun hc => by have := (hrem p).2 ⟨hpm, hc⟩; simp at this
      have hg := hg2 hpl
      have hgs : Good n w g a e (upd s lab B1) := hg.eqv (fun t => hruns.1 t) (fun b => by rw [look_upd, look_upd, hruns.2 b])
      refine tail_sound hF hD (fuel + 1) m (Nat.le_refl _) hD.le hs (fun i hi => ⟨fun h => ?_, fun h => ?_⟩) (by simp at hf; omega) htl hgs hx
      · exact Classical.byContradiction fun hc => hhi i (by omega) hi h
      · exact Classical.byContradiction fun hc => by have := (hrem i).2 ⟨h, hc⟩; simp at this
    · obtain ⟨i0, rest, rfl⟩ : ∃ i0 rest, rem = i0 :: rest := List.exists_cons_of_ne_nil hnil
      have hm := hD.le
      obtain ⟨hi0, hn0⟩ := (hrem i0).1 (by simp)
      have hmin : ∀ j, j < i0 → Li listed j := fun j hj => Classical.byContradiction fun hc => by
        have := (hrem j).2 ⟨by omega, hc⟩
        simp at this
        rcases this with h' | h'
        · omega
        · have := (List.pairwise_cons.1 hsort).1 j h'; omega
      have ho0 : ops[i0]? = some ops[i0] := Array.getElem?_eq_getElem (by omega)
      have hin : i0 ∈ Region.ready .any ops listed := by
        rw [ready_iff hs]
        exact ⟨hn0, ops[i0], ho0, fun e he hb => hmin _ (hD.edge i0 _ ho0 e he hb)⟩
      refine ⟨fun hnil => by rw [hnil] at hin; simp at hin, fun i hi => ?_⟩
      rw [ready_iff hs] at hi
      obtain ⟨hn, o, ho, hr⟩ := hi
      have hisz : i < ops.size := by
        rcases Nat.lt_or_ge i ops.size with h | h
        · exact h
        · rw [Array.getElem?_eq_none h] at ho; cases ho
      have hr' : ∀ o2, ops[i]? = some o2 → ∀ e ∈ o2.after, Region.binds .any e = true → Li listed e.on := fun o2 ho2 => by rw [ho] at ho2; cases ho2; exact hr
      have him : i < m := Classical.byContradiction fun hc => hn0 (pre_ready hdc (hD.tail i (by omega) hisz i0 (by omega)) hr')
      have himem : i ∈ i0 :: rest := (hrem i).2 ⟨him, hn⟩
      obtain ⟨l1, l2, hsplit⟩ := List.append_of_mem himem
      rw [hsplit] at hruns hsort hrem hf
      have hlt : ∀ j ∈ l1, j < i := fun j hj => (List.pairwise_append.1 hsort).2.2 j hj i (by simp)
      have hgt : ∀ j ∈ l2, i < j := fun j hj => (List.pairwise_cons.1 (List.pairwise_append.1 hsort).2.1).1 j hj
      have hb := bubble stAlt_ok ho (l1 := l1) (l2 := l2) (fun j hj => by
        obtain ⟨hjm, hjn⟩ := (hrem j).1 (by simp [hj])
        have hoj : ops[j]? = some ops[j] := Array.getElem?_eq_getElem (by omega)
        refine ⟨ops[j], hoj, ?_⟩
        rcases hD.head i o him ho j ops[j] (hlt j hj) hoj with h' | h'
        · exact absurd (pre_ready hdc h' hr') hjn
        · exact h') hruns
      obtain ⟨o2, y, nb, e1, s1, q1, q2, q3, q4, q5⟩ := hb
      rw [ho] at q1; cases q1
      have hrem' : ∀ j, j ∈ l1 ++ l2 ↔ j < m ∧ ¬ Li (listed.setIfInBounds i true) j := by
        intro j
        rw [Li_set (by omega)]
        have hj := hrem j
        constructor
        · intro hmem
          have hne : j ≠ i := by
            rcases List.mem_append.1 hmem with h' | h'
            · have := hlt j h'; omega
            · have := hgt j h'; omega
          have := hj.1 (by rcases List.mem_append.1 hmem with h' | h' <;> simp [h'])
          exact ⟨this.1, fun hc => by rcases hc with h' | h'; exact hne h'; exact this.2 h'⟩
        · rintro ⟨h1, h2⟩
          have hne : j ≠ i := fun e => h2 (.inl e)
          have := hj.2 ⟨h1, fun hc => h2 (.inr hc)⟩
          simp at this ⊢
          rcases this with h' | h' | h'
          · exact .inl h'
          · exact absurd h' hne
          · exact .inr h'
      have hsort' : (l1 ++ l2).Pairwise (· < ·) := by
        refine List.pairwise_append.2 ⟨(List.pairwise_append.1 hsort).1, (List.pairwise_cons.1 (List.pairwise_append.1 hsort).2.1).2, fun x hx y hy => ?_⟩
        have := hlt x hx; have := hgt y hy; omega
      have hhi' : ∀ j, m ≤ j → j < ops.size → ¬ Li (listed.setIfInBounds i true) j := fun j hj hjs hc => by
        rw [Li_set (by omega)] at hc
        rcases hc with h' | h'
        · omega
        · exact hhi j hj hjs h'
      have hes : (∀ t, o.dst ≠ some t → look e1 t = look env t) := fun t ht => by rw [q4.1 t, if_neg ht]
      have hρ1 : look s1 lab = some B0 := by
        rw [q4.2]
        rcases q3.new with hnb | ⟨d, B, hd1, hnb, _, hnone⟩
        · subst hnb; exact hρ
        · rw [look_app_new hnb]
          have hne : 2 * d ≠ lab := fun e => by rw [e, hρ] at hnone; cases hnone
          rw [if_neg hne]; exact hρ
      have hnext : ∀ {w' : World} {g' : G} {a' : Act}, (¬ Li (listed.setIfInBounds i true) p → Good n w' g' a' e1 s1) → (Li (listed.setIfInBounds i true) p → Good n w' g' a' e1 (upd s1 lab B1)) → Ext w0 g0 w' g' →
          wpAnyIn F 0 P .any ops (PostH n w0 g0 K) fuel (listed.setIfInBounds i true) a' w' := fun h1 h2 hx1 =>
        ih (by simp [hs]) (hdc.set (by omega) hr') hhi' hrem' hsort' (by simp at hf ⊢; omega) q5 hρ1 h1 h2 hx1
      refine wpOp_of hF ho ?_
      by_cases hip : i = p
      · /- the append itself -/
        subst hip
        rw [hop] at ho; cases ho
        have hg := hg1 hn
        have hwant : wantB ops op env = some true := by unfold wantB; rw [hgd]
        have halt : stAlt so xo s0 x0 op env ∧ y = .top ∧ nb = [] := by
          rcases q3.2 with ⟨_, h1, h2, h3⟩ | ⟨_, cf, _, h3⟩ | ⟨h1, _⟩
          · exact ⟨h1, h2, h3⟩
          · exfalso; rw [still_st_none hst0] at h3; cases h3
          · rw [hwant] at h1; cases h1
        obtain ⟨⟨_, _, _, hes0, hex0⟩, rfl, rfl⟩ := halt
        refine .inl ⟨wantB_ok hg hwant, ?_⟩
        refine hdo hg.inv hg.env hes0 hex0 hρ F hF _ _ ?_
        rintro v w' ⟨g', k1, k2, k3, k4⟩
        refine hnext (fun hc => absurd ((Li_set (by omega)).2 (.inl rfl)) hc) (fun _ => ?_) (hx.trans k1)
        rw [hd]
        have hgp : Good n w' g' a env _ := ⟨k3, k4, hg.defers.ext k1, hg.size⟩
        refine hgp.eqv (fun t => ?_) (fun b => ?_)
        · exact hes t (by rw [hd]; simp)
        · rw [look_upd, look_upd, q4.2 b]; rfl
      · obtain ⟨z2, z3⟩ := hsolo i o him ho hip
        have hLi : Li (listed.setIfInBounds i true) p ↔ Li listed p := by
          rw [Li_set (by omega)]
          exact ⟨fun h => h.elim (fun e => absurd e.symm hip) (fun h => h), .inr⟩
        have hq : (wantB ops o env = some true ∧ ∃ cf, CfOk P cf ∧ stillV c cf news o env σ = some (y, nb)) ∨ (wantB ops o env = some false ∧ y = .t .undef ∧ nb = []) := by
          rcases q3.2 with ⟨_, h1, _⟩ | h | h
          · rw [h1.1] at z2; cases z2
          · exact .inl h
          · exact .inr h
        /- what it does, seen from a state that looks alike where it looks -/
        have step : ∀ {env' : Env} {σ' : St}, (∀ t, look env' t = look env t) → (∀ b, b ≠ lab → look σ' b = look σ b) → Good n w g a env' σ' →
            (∀ {w' : World} {g' : G} {a' : Act} {env2 : Env} {σ2 : St}, (∀ t, look env2 t = if o.dst = some t then some y else look env' t) → (∀ b, look σ2 b = look (nb ++ σ') b) → Good n w' g' a' env2 σ2 → Ext w0 g0 w' g' → wpAnyIn F 0 P .any ops (PostH n w0 g0 K) fuel (listed.setIfInBounds i true) a' w') →
            (Region.wanted o (yielded ops a.tmps) = true ∧ o.wpIn F 0 P a w (wpAnyIn F 0 P .any ops (PostH n w0 g0 K) fuel (listed.setIfInBounds i true)) (PostH n w0 g0 K)) ∨ (Region.wanted o (yielded ops a.tmps) = false ∧ wpAnyIn F 0 P .any ops (PostH n w0 g0 K) fuel (listed.setIfInBounds i true) (a.put o.dst undef) w) := by
          intro env' σ' hev hst hg hk
          have hl1 : ∀ t, t ∈ o.looksAt ops → look env t = look env' t := fun t _ => (hev t).symm
          have hputg : ∀ {w' : World} {g' : G} {v : Value} {σ2 : St}, Good n w' g' a env' σ2 → Rel w' g' v y → (∀ b, look σ2 b = look (nb ++ σ') b) → Ext w0 g0 w' g' →
              wpAnyIn F 0 P .any ops (PostH n w0 g0 K) fuel (listed.setIfInBounds i true) (a.put o.dst v) w' := by
            intro w' g' v σ2 hg1 hrel hs1 hx1
            cases hd1 : o.dst with
            | none => exact hk (env2 := env') (fun t => by rw [hd1]; simp) hs1 hg1 hx1
            | some d =>
              have hlt := q3.1 d hd1
              have hput : putV n (some d) y env' = some ((d, y) :: env') := by
                simp only [putV]
                have : Nat.blt d n = true := by simpa [Nat.blt_eq] using hlt
                rw [this]
              exact hk (env2 := (d, y) :: env') (fun t => by rw [hd1, look_cons]; simp) hs1 (put_good hput hg1 hrel) hx1
          rcases hq with ⟨hw, cf, hcf, hst1⟩ | ⟨hw, hy, hnb⟩
          · refine .inl ⟨wantB_ok hg (by rw [← wantB_congr hl1]; exact hw), ?_⟩
            have hst2 : stillV c cf news o env' σ' = some (y, nb) := by
              rw [← stillV_congr (ev_looks hl1) (fun b hb => (hst b (fun e => hb (e ▸ hrn))).symm) (fun b hb => (hst b (fun e => z3 (e ▸ hb))).symm)]; exact hst1
            refine still_sound hp hcf hg.inv hg.env hst2 F hF _ _ ?_
            rintro v w' ⟨g', k1, k2, k3, k4⟩
            exact hputg (σ2 := nb ++ σ') ⟨k4, k3, hg.defers.ext k1, hg.size⟩ k2 (fun _ => rfl) (hx.trans k1)
          · refine .inr ⟨wantB_ok hg (by rw [← wantB_congr hl1]; exact hw), ?_⟩
            subst hy; subst hnb
            exact hputg (σ2 := σ') hg (.t _ _ .undef) (fun _ => rfl) hx
        have hnbl : ∀ b, b = lab → ∀ σ' : St, look (nb ++ σ') b = look σ' b := fun b hb σ' => by
          rcases q3.new with hnb | ⟨d, B, hd1, hnb, hl, hnone⟩
          · subst hnb; rfl
          · rw [look_app_new hnb]
            have hne : 2 * d ≠ b := fun e => by rw [e, hb, hρ] at hnone; cases hnone
            rw [if_neg hne]
        have hnbo : ∀ b, ∀ σ1 σ2 : St, look σ1 b = look σ2 b → look (nb ++ σ1) b = look (nb ++ σ2) b := fun b σ1 σ2 h => by
          rcases q3.new with hnb | ⟨d, B, hd1, hnb, hl, hnone⟩
          · subst hnb; exact h
          · rw [look_app_new hnb, look_app_new hnb, h]
        by_cases hpl : Li listed p
        · have hg := hg2 hpl
          refine step (env' := env) (σ' := upd σ lab B1) (fun _ => rfl) (fun b hb => by rw [look_upd, if_neg (Ne.symm hb)]) hg (fun he2 hs2 hg' hx' => ?_)
          refine hnext (fun hc => absurd (hLi.2 hpl) hc) (fun _ => hg'.eqv (fun t => ?_) (fun b => ?_)) hx'
          · rw [he2 t, q4.1 t]
          · rw [hs2 b, look_upd]
            by_cases e : lab = b
            · rw [if_pos e, hnbl b e.symm, look_upd, if_pos e]
            · rw [if_neg e, q4.2 b]
              exact hnbo b _ _ (by rw [look_upd, if_neg e])
        · have hg := hg1 hpl
          refine step (env' := env) (σ' := σ) (fun _ => rfl) (fun _ _ => rfl) hg (fun he2 hs2 hg' hx' => ?_)
          exact hnext (fun _ => hg'.eqv (fun t => by rw [he2 t, q4.1 t]) (fun b => by rw [hs2 b, q4.2 b])) (fun hc => absurd (hLi.1 hc) hpl) hx'
/- no other operation of the head is a store, or makes the block -/
def soloS (lab p : Nat) : Nat → List Oper → Bool
  | _, [] => true
  | i, o :: r => (Nat.beq i p || (!isSt o.op && !(newLab o).contains lab)) && soloS lab p (i + 1) r
theorem soloS_get {lab p : Nat} : ∀ {l : List Oper} {i0 : Nat}, soloS lab p i0 l = true → ∀ j o, l[j]? = some o → i0 + j ≠ p → isSt o.op = false ∧ lab ∉ newLab o
  | [], i0, _, j, o, h, _ => by simp at h
  | x :: r, i0, hb, j, o, h, hne => by
    simp only [soloS, Bool.and_eq_true] at hb
    cases j with
    | zero =>
      simp at h; subst h
      have hb1 := hb.1
      cases hq : Nat.beq i0 p with
      | true => exact absurd (Nat.eq_of_beq_eq_true hq) hne
      | false =>
        simp only [hq, Bool.false_or, Bool.and_eq_true, Bool.not_eq_true'] at hb1
        exact ⟨hb1.1, fun hc => by rw [List.contains_iff_mem.2 hc] at hb1; cases hb1.2⟩
    | succ j => simp at h; exact soloS_get hb.2 j o h (by omega)
theorem store_does (hp : ProgOk P c) {op : Oper} {t : Nat} {so xo : Operand} {s0 x0 : AV} {lab off : Nat} {cs : List AV} {B1 : Blk} (ho : op.op = .store t so xo) (hs0 : s0 = .ref lab off) (hsv : ∀ σ, look σ lab = some (.cells cs) → storeV c.te t s0 x0 σ = some (upd σ lab B1))
    {w : World} {g : G} {a : Act} {env : Env} {σ : St} (hi : Inv w g σ) (he : RelEnv w g a env) (h1 : ev env so = some s0) (h2 : ev env xo = some x0) (h3 : look σ lab = some (.cells cs)) : Does P op a w (fun v w' => ∃ g', Ext w g w' g' ∧ Rel w' g' v .top ∧ RelEnv w' g' a env ∧ Inv w' g' (upd σ lab B1)) := by
  obtain ⟨w', q1, q2, q3, q4⟩ := store_sound hp.te hi (ev_rel he h1) (ev_rel he h2) (hsv σ h3)
  exact Does.skip (w' := w') (by simp [execOp, ho, q1]) ⟨g, q2, .top _, he.mono q4, q3⟩
theorem w_regS (hp : ProgOk P c) {id p lab off t : Nat} {env env' : Env} {σ σ' : St} {K : Exit → Env → St → Prop} {op : Oper} {so xo : Operand} {x0 : AV} {cs : List AV} {B1 : Blk} {l1 l2 : List Oper}
    (hm : drawM ops = some m) (hz : regFrz ops env σ = (env', σ')) (hsplit : ops.toList.take m = l1 ++ op :: l2) (hlen : l1.length = p) (ho : op.op = .store t so xo) (hdst : op.dst = none) (hgd : op.guard = none) (hsolo : soloS lab p 0 (ops.toList.take m) = true)
    (hlab : look σ' lab = some (.cells cs)) (hsv : ∀ σ, look σ lab = some (.cells cs) → storeV c.te t (.ref lab off) x0 σ = some (upd σ lab B1))
    (h : hSK P c n ops (lab :: newsOf (ops.toList.take m)) l1 env' σ' (fun e1 s1 => ev e1 so = some (.ref lab off) ∧ ev e1 xo = some x0 ∧ hSK P c n ops (lab :: newsOf (ops.toList.take m)) l2 e1 s1 (fun e s => hOps P n ops (ops.toList.drop m) e (upd s lab B1) (K .normal)))) :
    Tr P n (.region id ops true) env σ K := by
  intro F hF hrf w g0 a hg0
  obtain ⟨g, hx, hg⟩ := regFrz_sound hz hg0
  have hD := drawM_ok hm
  have hle := hD.le
  have hml : (ops.toList.take m).length = m := by simp; omega
  have hll : l1.length + (l2.length + 1) = m := by rw [← hml, hsplit]; simp
  have hgl : ∀ j, j < m → (l1 ++ op :: l2)[j]? = ops[j]? := fun j hj => by
    rw [← hsplit, List.getElem?_take, if_pos (by omega), Array.getElem?_toList]
  have hop : ops[p]? = some op := by
    have := hgl l1.length (by omega)
    rw [List.getElem?_append_right (Nat.le_refl _), Nat.sub_self, hlen] at this
    simpa using this.symm
  have hmem : ∀ o, o ∈ l1 ++ op :: l2 → ∀ b ∈ newLab o, b ∈ lab :: newsOf (ops.toList.take m) := fun o ho b hb => List.mem_cons_of_mem _ (newsOf_mem (by rw [hsplit]; exact ho) b hb)
  obtain ⟨e1, s1, r1, v1, v2, h⟩ := hSK_runs (alt := stAlt so xo (.ref lab off) x0) l1 0 (fun j hj => by have := hgl j (by omega); rw [List.getElem?_append_left hj] at this; rwa [Nat.zero_add]) (fun o ho => hmem o (by simp [ho])) h
  obtain ⟨e, s, r2, htl⟩ := hSK_runs (alt := stAlt so xo (.ref lab off) x0) l2 (p + 1) (fun j hj => by
    have := hgl (l1.length + 1 + j) (by omega)
    rw [List.getElem?_append_right (by omega), show l1.length + 1 + j - l1.length = j + 1 by omega, List.getElem?_cons_succ, show l1.length + 1 + j = p + 1 + j by omega] at this
    exact this) (fun o ho => hmem o (by simp [ho])) h
  have rp : Runs P c (stAlt so xo (.ref lab off) x0) n ops (lab :: newsOf (ops.toList.take m)) (p :: List.range' (p + 1) l2.length) e1 s1 e s :=
    ⟨op, .top, [], e1, s1, hop, hmem op (by simp), ⟨fun d hd1 => (by rw [hdst] at hd1; cases hd1), .inl ⟨by unfold wantB; rw [hgd], ⟨by rw [ho]; rfl, by simp [ho, Op.operands], by simp [ho, Op.operands], v1, v2⟩, rfl, rfl⟩⟩, ⟨fun t => by rw [hdst]; simp, fun _ => rfl⟩, r2⟩
  have hruns := Runs.app stAlt_ok r1 rp
  have hrl : List.range' 0 l1.length ++ p :: List.range' (p + 1) l2.length = List.range' 0 m := by
    have h1 : p :: List.range' (p + 1) l2.length = List.range' p (l2.length + 1) := by rw [List.range'_succ]
    rw [h1, ← hll, ← List.range'_append_1 (s := 0) (m := l1.length), hlen, Nat.zero_add]
  rw [hrl] at hruns
  refine wpIn_mono ?_ fun ex a2 w2 (hq : PostH n w g K ex a2 w2) => hq.lift hx
  refine wpIn_region_any hp.mix ?_
  refine headS_sound hF hp hD hop (by omega) hdst hgd (by rw [ho]; rfl) (by simp) (fun i o hi ho' hne => ?_) (fun hi he h1 h2 h3 => store_does hp ho rfl hsv hi he h1 h2 h3) htl ops.size (by simp) (fun i o ho hl => by simp [Li, Array.getElem?_replicate] at hl) (fun i _ _ hl => by simp [Li, Array.getElem?_replicate] at hl) (rem := List.range' 0 m) (fun i => by simp [Li, Array.getElem?_replicate, List.mem_range'_1]) List.pairwise_lt_range' (by simp; omega) hruns hlab (fun _ => hg.drew) (fun hc => by simp [Li, Array.getElem?_replicate] at hc) (Ext.drew w g)
  refine soloS_get hsolo i o ?_ (by omega)
  rw [List.getElem?_take, if_pos hi, Array.getElem?_toList]; exact ho'
theorem storeV_at {te : TE} {t lab off : Nat} {ti : TI} {x0 : AV} {ys cs : List AV} (ht : look te t = some ti) (hy : cellsA x0 = some ys) (hl : ys.length = ti.size) (hle : Nat.ble (off + ti.size) cs.length = true) : ∀ σ, look σ lab = some (.cells cs) → storeV te t (.ref lab off) x0 σ = some (upd σ lab (.cells (setR cs off ys))) := by
  intro σ h
  have hle' : off + ti.size ≤ cs.length := by simpa using hle
  unfold storeV
  simp only [ht, hy, hl, if_true, h, hle']
/- one store in the head, at place p -/
theorem w_regSt (hp : ProgOk P c) (p : Nat) {id lab off t : Nat} {env env' : Env} {σ σ' : St} {K : Exit → Env → St → Prop} {op : Oper} {so xo : Operand} {x0 : AV} {cs ys : List AV} {ti : TI} {l1 l2 l3 : List Oper} {news : List Nat}
    (hm : drawM ops = some m) (hz : regFrz ops env σ = (env', σ')) (h1 : ops.toList.take p = l1) (h2 : (ops.toList.take m).drop p = op :: l2) (h3 : ops.toList.drop m = l3) (ho : op.op = .store t so xo) (hdst : op.dst = none) (hgd : op.guard = none) (hsolo : soloS lab p 0 (ops.toList.take m) = true) (hn : newsOf (ops.toList.take m) = news)
    (hlab : look σ' lab = some (.cells cs)) (ht : look c.te t = some ti) (hl : ys.length = ti.size) (hlc : Nat.ble (off + ti.size) cs.length = true)
    (h : hSK P c n ops (lab :: news) l1 env' σ' (fun e1 s1 => ev e1 so = some (.ref lab off) ∧ ev e1 xo = some x0 ∧ hSK P c n ops (lab :: news) l2 e1 s1 (fun e s => hOps P n ops l3 e (upd s lab (.cells (setR cs off ys))) (K .normal)))) (hy : cellsA x0 = some ys) :
    Tr P n (.region id ops true) env σ K := by
  subst hn; subst h3
  have hle := (drawM_ok hm).le
  have hpm : p < m := by
    rcases Nat.lt_or_ge p m with h | h
    · exact h
    · rw [List.drop_of_length_le (by simp; omega)] at h2; cases h2
  have hpl : l1.length = p := by rw [← h1]; simp; omega
  have hsplit : ops.toList.take m = l1 ++ op :: l2 := by
    rw [← h2, ← h1]
    have := (List.take_append_drop p (ops.toList.take m)).symm
    rwa [List.take_take, Nat.min_eq_left (by omega)] at this
  exact w_regS hp hm hz hsplit hpl ho hdst hgd hsolo hlab (storeV_at ht hy hl hlc) h
end
end Go.Am
