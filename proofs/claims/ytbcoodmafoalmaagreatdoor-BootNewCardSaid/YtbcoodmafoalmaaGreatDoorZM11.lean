/- Contracts and laws, joined: Bc, Bd, Be, Bf, Bg, Bh, Bi, Bj, Bl, Bm, Bn. No condition beside those that each theorem names. -/
import Derived.Test.YtbcoodmafoalmaaGreatDoorZM10
set_option linter.unusedVariables false
set_option linter.unusedSimpArgs false
namespace Go.Am
def SubT (x y : T) : Prop := (oneT x = true → oneT y = true) ∧ ∀ w M v, RelT w M v x → RelT w M v y
def SubTs : List T → List T → Prop
  | [], [] => True
  | x :: r, y :: s => SubT x y ∧ SubTs r s
  | _, _ => False
def SubTss : List (List T) → List (List T) → Prop
  | [], [] => True
  | x :: r, y :: s => SubTs x y ∧ SubTss r s
  | _, _ => False
theorem SubT.refl (x : T) : SubT x x := ⟨id, fun _ _ _ h => h⟩
theorem SubT.of_eq {x y : T} (h : x = y) : SubT x y := h ▸ SubT.refl x
theorem SubT.any {m : SM} {sz : Nat} {es : List (List T)} : SubT (.slice m sz es) (.slice .any sz es) := ⟨fun _ => rfl, fun _ _ _ h => sub_sliceT h⟩
theorem SubT.nil {m : SM} {sz sz' : Nat} : SubT (.slice m sz []) (.slice .any sz' []) := ⟨fun _ => rfl, fun _ _ _ h => sub_nilT h⟩
theorem SubT.sub {x y : T} (h : SubT x y) : Sub (.t x) (.t y) := fun _ _ _ hr => .t _ _ (h.2 _ _ _ (rel_t_inv hr))
theorem SubTs.refl : ∀ l : List T, SubTs l l
  | [] => trivial
  | x :: r => ⟨SubT.refl x, SubTs.refl r⟩
theorem SubTss.refl : ∀ l : List (List T), SubTss l l
  | [] => trivial
  | x :: r => ⟨SubTs.refl x, SubTss.refl r⟩
theorem SubTs.len : ∀ {a b : List T}, SubTs a b → a.length = b.length
  | [], [], _ => rfl
  | x :: r, y :: s, h => by simp [SubTs.len h.2]
  | [], _ :: _, h => h.elim
  | _ :: _, [], h => h.elim
theorem SubTs.get : ∀ {a b : List T}, SubTs a b → ∀ (i : Nat) y, b[i]? = some y → ∃ x, a[i]? = some x ∧ SubT x y
  | [], [], _, i, y, hy => by simp at hy
  | x :: r, z :: s, h, 0, y, hy => by simp at hy; subst hy; exact ⟨x, rfl, h.1⟩
  | x :: r, z :: s, h, i + 1, y, hy => by
    obtain ⟨u, h1, h2⟩ := SubTs.get h.2 i y (by simpa using hy)
    exact ⟨u, by simpa using h1, h2⟩
  | [], _ :: _, h, _, _, _ => h.elim
  | _ :: _, [], h, _, _, _ => h.elim
theorem SubTs.app : ∀ {a b c d : List T}, SubTs a b → SubTs c d → SubTs (a ++ c) (b ++ d)
  | [], [], _, _, _, h => h
  | x :: r, y :: s, _, _, h1, h2 => ⟨h1.1, SubTs.app h1.2 h2⟩
  | [], _ :: _, _, _, h, _ => h.elim
  | _ :: _, [], _, _, h, _ => h.elim
theorem SubTss.flat : ∀ {a b : List (List T)}, SubTss a b → a.length = b.length ∧ SubTs a.flatten b.flatten ∧ ∀ sz, (∀ e ∈ a, e.length = sz) → ∀ e ∈ b, e.length = sz
  | [], [], _ => ⟨rfl, trivial, fun _ _ _ h => by simp at h⟩
  | x :: r, y :: s, h => by
    obtain ⟨h1, h2, h3⟩ := SubTss.flat h.2
    refine ⟨by simp [h1], by simpa using h.1.app h2, fun sz hs e he => ?_⟩
    rcases List.mem_cons.1 he with rfl | he
    · rw [← h.1.len]; exact hs x (by simp)
    · exact h3 sz (fun z hz => hs z (by simp [hz])) e he
  | [], _ :: _, h => h.elim
  | _ :: _, [], h => h.elim
theorem SubT.slice {m : SM} {sz : Nat} {es es' : List (List T)} (h : SubTss es es') : SubT (.slice m sz es) (.slice .any sz es') := by
  obtain ⟨h1, h2, h3⟩ := h.flat
  refine ⟨fun _ => rfl, fun w M v hr => ?_⟩
  cases hr with
  | sliceNil =>
    cases es' with
    | nil => exact .sliceNil _ _
    | cons => simp at h1
  | sliceZ a _ _ hm =>
    cases es' with
    | nil => exact .sliceZ a _ _ (by simp)
    | cons => simp at h1
  | slice b off len cap _ _ _ vs hl hc hf hm hp hsz hone hcell hrel =>
    refine .slice b off len cap .any sz es' vs (by omega) hc (fun h => by cases h) (by simp) (fun _ _ h => by cases h) (h3 sz hsz) (fun i y hy => ?_) (fun i y hy => ?_) (fun i y hy => ?_)
    · obtain ⟨x, q1, q2⟩ := h2.get i y hy; exact q2.1 (hone i x q1)
    · obtain ⟨x, q1, q2⟩ := h2.get i y hy; exact hcell i x q1
    · obtain ⟨x, q1, q2⟩ := h2.get i y hy; exact q2.2 _ _ _ (hrel i x q1)
end Go.Am

namespace Go.Am
section
variable {P : Program} {c : Conf} {n : Nat} {ops : Array Oper} {rest : List Oper} {env : Env} {σ : St} {o : Oper} {k : Env → St → Prop}
/- the cells of a slice that is built -/
def bsCells (te : TE) (t m : Nat) (env : Env) (parts : List (Nat × Operand)) : Option (List AV) :=
  match look te t with
  | some ⟨_, _, _, .slice e⟩ => match look te e with
    | some ei => if m * ei.size ≤ 16777216 then (if ei.size = 1 then (match evP env parts with
      | some ps => fillA (fun i => some (i * ei.size, ei.size)) ps (liftT (repl ei.zero m))
      | none => none) else none) else none
    | none => none
  | _ => none
theorem fillA_len {place : Nat → Option (Nat × Nat)} : ∀ (ps : List (Nat × AV)) (cs cs' : List AV), fillA place ps cs = some cs' → cs'.length = cs.length
  | [], cs, cs', h => by simp [fillA] at h; rw [h]
  | (i, x) :: r, cs, cs', h => by
    simp only [fillA] at h
    split at h
    · split at h
      · split at h
        · split at h
          · rw [fillA_len r _ _ h, setR_len _ _ _ (by omega)]
          · simp at h
        · simp at h
      · simp at h
    · simp at h
theorem bsCells_sound {te : TE} (hte : TeOk P te) {w : World} {g : G} {a : Act} {env : Env} (he : RelEnv w g a env) {t m : Nat} {parts : Array (Nat × Operand)} {cs : List AV} (h : bsCells te t m env parts.toList = some cs) :
    ∃ cells' e w', (Instr.buildSlice t m (parts.map fun p => (p.1, a.eval p.2))).run P w = .ok (.slice (some ⟨w.heap.size, 0, none⟩) m m) w' ∧ More w w' (.cells cells' e (0, 0)) ∧ RelL w g cells'.toList cs ∧ cs.length = m := by
  unfold bsCells at h
  split at h
  · rename_i i1 i2 i3 e hl
    have hu := und_slice (hte _ _ hl) w rfl
    split at h
    · rename_i ei hei
      have hsz := run_sizeOf (hte _ _ hei) w
      have hz := run_zeroValue (hte _ _ hei) w
      have hzr := zero_rel (w := w) (g := g) (hte _ _ hei)
      have hzl := (hte _ _ hei).len
      split at h
      · rename_i hsmall
        split at h
        · rename_i hone
          split at h
          · rename_i ps hps
            obtain ⟨zc, hzc⟩ : ∃ zc : Array Value, zc = (if m * ei.size = 0 then #[] else (zeroV ei).cells) := ⟨_, rfl⟩
            have hzs : (zeroV ei).cells.size = ei.size := by rw [← hzl, ← liftT_len, ← hzr.1]; simp
            have hinit : RelL w g ((Array.range (m * ei.size)).map (zc[· % zc.size]!)).toList (liftT (repl ei.zero m)) := by
              refine ⟨by simp [liftT_len, repl_len, hzl], fun i v x hv hx => ?_⟩
              have hlt : i < m * ei.size := by have := get_of_lt hx; rw [liftT_len, repl_len, hzl] at this; exact this
              have hne : m * ei.size ≠ 0 := by omega
              have hpos : 0 < ei.size := by omega
              rw [if_neg hne] at hzc
              subst hzc
              rw [liftT_get, repl_get _ _ _ (by rw [hzl]; exact hlt), hzl] at hx
              have hm : i % ei.size < ei.size := Nat.mod_lt _ hpos
              simp only [Array.toList_map, Array.toList_range, List.getElem?_map, List.getElem?_range hlt, Option.map_some, Option.some.injEq, hzs] at hv
              have hget : (zeroV ei).cells.toList[i % ei.size]? = some v := by
                rw [← hv, Array.getElem?_toList, getElem!_pos _ _ (by rw [hzs]; exact hm), Array.getElem?_eq_getElem (by rw [hzs]; exact hm)]
              exact hzr.2 _ v x hget (by rw [liftT_get]; exact hx)
            obtain ⟨cells', f1, f2⟩ := fill_run (fun i => some (i * ei.size, ei.size)) h hinit (evP_rel he hps)
            have hcl : cs.length = m := by rw [fillA_len _ _ _ h, liftT_len, repl_len, hzl, hone, Nat.mul_one]
            refine ⟨cells', e, _, ?_, More.alloc w (.cells cells' e), f2, hcl⟩
            have hsm : ¬ (m * ei.size > 2 ^ 24) := by omega
            have f1' : Instr.fill (fun i => some (i * ei.size, ei.size)) ((Array.range (m * ei.size)).map (zc[· % zc.size]!)) (parts.map fun p => (p.1, a.eval p.2)).toList = some cells' := by
              rw [← f1]; simp
            simp only [Instr.buildSlice, Sem.run_bind, hu, Result.andThen_ok, hsz]
            rw [if_neg hsm]
            by_cases hn0 : m * ei.size = 0
            · rw [if_pos hn0] at hzc ⊢
              subst hzc
              simp only [Sem.run_pure, Result.andThen_ok, Sem.run_bind, f1', newRow, newObj, Sem.run]
              rfl
            · rw [if_neg hn0] at hzc ⊢
              subst hzc
              simp only [Sem.run_pure, Result.andThen_ok, hz, Sem.run_bind, f1', newRow, newObj, Sem.run]
              rfl
          · simp at h
        · simp at h
      · simp at h
    · simp at h
  · simp at h
/- a slice of closures that is built -/
theorem w_bsCells (hp0 : ProgOk P c) {t m d : Nat} {parts : Array (Nat × Operand)} {cs : List AV} {e2 : Env} (hg : o.guard = none) (ho : o.op = .buildSlice t m parts) (hd : o.dst = some d) (hl : look σ (2 * d) = none) (hs : bsCells c.te t m env parts.toList = some cs)
    (hp : putV n o.dst (.row (2 * d) 1 0 m) env = some e2) (h : hOps P n ops rest e2 ((2 * d, .cells cs) :: σ) k) : hOps P n ops (o :: rest) env σ k := by
  simp only [hOps, wantedH, hg]
  intro w g a hi hee
  obtain ⟨cells', e, w', h1, h2, h3, h4⟩ := bsCells_sound (P := P) hp0.te hee hs
  obtain ⟨k1, k2, k3⟩ := own_new hi hl h2 (B := .cells cs) (fun hr => ⟨w.heap.size, cells', e, by simp [G.with], .inr rfl, h2.new, by rw [← h3.1]; simp, fun i v x hv hx => hr _ _ (h3.2 i v x (by rw [Array.getElem?_toList]; exact hv) hx)⟩)
  refine Does.value (v := .slice (some ⟨w.heap.size, 0, none⟩) m m) (w' := w') ?_ ⟨_, _, _, ⟨_, k1, ?_, k2, hee.mono k3⟩, e2, hp, h⟩
  · simp only [execOp, ho, Sem.run_bind]
    simp [h1]
  · have hcs : cells'.size = m := by have := h3.1; simp at this; omega
    exact .row (2 * d) 1 0 m w.heap.size 0 m e cells'.size (by simp [G.with]) (by simp [World.shape?, h2.new]) (.inl (by simp)) (Nat.le_refl _) (by rw [hcs]; omega)
/- a closure of such a row -/
theorem w_loadEC (hp0 : ProgOk P c) {t b kc : Nat} {ti : TI} {cs : List AV} {y : AV} {xo : Operand} {e2 : Env} (hg : o.guard = none) (ho : o.op = .load t xo) (hx : ev env xo = some (.eref b 1 kc 0)) (ht : look c.te t = some ti) (hb : look σ b = some (.cells cs)) (he : cs[kc]? = some y) (ha : ti.kind.agg = false)
    (hp : putV n o.dst y env = some e2) (h : hOps P n ops rest e2 σ k) : hOps P n ops (o :: rest) env σ k := by
  simp only [hOps, wantedH, hg]
  intro w g a hi hee
  have hr := ev_rel hee hx
  obtain ⟨blk', vs, e, h1, h2, h3⟩ := own_cells hi hb
  generalize hu : a.eval xo = ux at hr
  cases hr with
    | eref _ _ _ _ blk hβ =>
      rw [h1] at hβ; cases hβ
      have hlt := get_of_lt he
      have hsz := (hp0.te _ _ ht).one ha
      obtain ⟨v, hv⟩ : ∃ v, vs.toList[kc]? = some v := ⟨vs.toList[kc]'(by rw [h3.1]; exact hlt), List.getElem?_eq_getElem _⟩
      have hrun := loadVar_run (P := P) hp0.te (w := w) ht (b := blk') (off := kc * 1 + 0) (vs := [v]) (by simp [hsz]) (fun i u hu => by
        cases i with
        | zero => simp at hu; subst hu; rw [cell_get h2, ← Array.getElem?_toList]; simpa using hv
        | succ i => simp at hu)
      rw [ha] at hrun
      exact Does.value (v := v) (w' := w) (by have hrun' : (loadVar t ⟨blk', kc, none⟩).run P w = .ok v w := (by simpa using hrun); simp [execOp, ho, hu, Instr.loadAt, Instr.sureAddr, hrun']) ⟨_, _, _, ⟨g, Ext.refl _ _, h3.2 kc v y hv he, hi, hee⟩, e2, hp, h⟩
end
end Go.Am

namespace Go.Am
section
variable {P : Program} {c : Conf} {n : Nat} {ops : Array Oper} {rest : List Oper} {env : Env} {σ : St} {o : Oper} {k : Env → St → Prop}
theorem w_sliceP (hp0 : ProgOk P c) {t m e h : Nat} {xo : Operand} {hi : Option Operand} {cs : List T} {ti ei : TI} {e2 : Env} (hg : o.guard = none) (ho : o.op = .slice t xo none hi none) (hx : ev env xo = some (.t (.ptr cs))) (ht : look c.te t = some ti) (hk : ti.kind = .array m e) (he : look c.te e = some ei)
    (hl : m * ei.size ≤ cs.length) (hm : m ≠ 0) (hh : boundV env hi m = some h) (h1 : h ≤ m) (hp : putV n o.dst (.t (.slice .any ei.size ((chunk ei.size m (cs.take (m * ei.size))).take h))) env = some e2) (hK : hOps P n ops rest e2 σ k) : hOps P n ops (o :: rest) env σ k := by
  simp only [hOps, wantedH, hg]
  intro w g a hin hee
  have hte := hp0.te
  have hd := und_array (hte _ _ ht) w hk
  have hsz := run_sizeOf (hte _ _ he) w
  obtain ⟨b, off, hv, hc⟩ := ptr_inv (rel_t_inv (ev_rel hee hx))
  have hb := bounds_run (P := P) (w := w) hee (s := false) (len := m) (cap := m) (lo := none) (hi := hi) (l := 0) (h := h) hh rfl h1 (Nat.zero_le _)
  simp only [Option.map_none] at hb
  have hrun : (Instr.sliceAt t (a.eval xo) none (hi.map a.eval) none).run P w = .ok (.slice (some ⟨b, off, none⟩) h m) w := by
    rw [hv]
    simp [Instr.sliceAt, hd, hb, hsz, Instr.sureAddr, asAddr, Addr.add, hm]
  obtain ⟨q1, q2, q3⟩ := chunk_flat ei.size m (cs.take (m * ei.size)) (by rw [List.length_take]; omega)
  refine Does.value (v := .slice (some ⟨b, off, none⟩) h m) (w' := w) ?_ ⟨_, env, σ, ⟨g, Ext.refl _ _, .t _ _ (slice_mk (m := .any) (by rw [List.length_take, q3]; omega) h1 (by intro e; cases e) (by simp) (fun x hx => q2 x (List.mem_of_mem_take hx)) (fun i x hx => ?_)), hin, hee⟩, e2, hp, hK⟩
  · simp [execOp, ho, hrun]
  · have := flat_drop_take ei.size (chunk ei.size m (cs.take (m * ei.size))) q2 0 h i x (by simpa using hx)
    rw [q1] at this
    have h2 : cs[i]? = some x := by
      simp only [Nat.zero_mul, Nat.zero_add, List.getElem?_take] at this
      split at this
      · exact this
      · cases this
    exact hc i x h2
end
/- boxes of data, given away -/
def isArr (te : TE) (t : Nat) : Bool := match look te t with
  | some ⟨_, _, _, .array _ _⟩ => true
  | _ => false
def hasSlA (te : TE) : List Oper → Bool
  | [] => false
  | o :: r => match o.op with
    | .slice t _ _ _ _ => isArr te t || hasSlA te r
    | _ => hasSlA te r
def frzBx : List Oper → Env → St → Env × St
  | [], env, σ => (env, σ)
  | o :: r, env, σ => (match o.op with
    | .fieldAddr _ (.tmp a) _ => (match look env a with
      | some (.ref b 0) => (match Nat.beq (b % 2) 0 with
        | true => (match look σ b with
          | some (.cells cs) => (match allT cs with
            | some ts => (match ts.all oneT with
              | true => frzBx r ((a, .t (.ptr ts)) :: frzE b ts.length [ts] env) (frzS b ts.length [ts] σ)
              | false => frzBx r env σ)
            | none => frzBx r env σ)
          | _ => frzBx r env σ)
        | false => frzBx r env σ)
      | _ => frzBx r env σ)
    | _ => frzBx r env σ)
theorem frzBx_Tr {P : Program} {n : Nat} {code : Code} {K : Exit → Env → St → Prop} : ∀ (l : List Oper) {env : Env} {σ : St}, Tr P n code (frzBx l env σ).1 (frzBx l env σ).2 K → Tr P n code env σ K
  | [], env, σ, h => h
  | o :: r, env, σ, h => by
    simp only [frzBx] at h
    split at h
    · rename_i t0 a i0 ho0
      split at h
      · rename_i x0 b hl
        split at h
        · rename_i hev
          split at h
          · rename_i cs hb
            split at h
            · rename_i ts hts
              split at h
              · rename_i hone
                have hcs := allT_get hts
                subst hcs
                exact Tr.freezeBox a b (Nat.eq_of_beq_eq_true hev) hl hb hone (frzBx_Tr r h)
              · exact frzBx_Tr r h
            · exact frzBx_Tr r h
          · exact frzBx_Tr r h
        · exact frzBx_Tr r h
      · exact frzBx_Tr r h
    · exact frzBx_Tr r h
end Go.Am
