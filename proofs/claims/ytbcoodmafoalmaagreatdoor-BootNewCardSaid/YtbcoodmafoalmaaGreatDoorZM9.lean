/- The general texts of the abstract machine, joined: Hw17, Hw18, Ay, Hw19. -/
import Derived.Test.YtbcoodmafoalmaaGreatDoorZM6
set_option linter.unusedVariables false
set_option linter.unusedSimpArgs false
/- Hw17 -/
namespace Go.Am
section
variable {P : Program} {c : Conf} {te : TE} {w w' : World} {g : G} {σ : St}
end
end Go.Am
/- Hw18 -/
namespace Go.Am
/- a part of a value that is given away -/
def PS (b sz : Nat) (es : List (List T)) (blk N : Nat) (y y' : AV) : Prop := ∀ (w : World) (g g' : G), (∀ v, Rel w g v (.row b sz 0 es.length) → Rel w g' v (.t (.slice (.phys blk N) sz es))) → (∀ v x, Rel w g v x → Rel w g' v (frzA b sz es x)) → ∀ v, Rel w g v y → Rel w g' v y'
def PSL (b sz : Nat) (es : List (List T)) (blk N : Nat) : List AV → List AV → Prop
  | [], [] => True
  | x :: r, y :: s => PS b sz es blk N x y ∧ PSL b sz es blk N r s
  | _, _ => False
section
variable {b sz : Nat} {es : List (List T)} {blk N : Nat}
theorem PSL.get : ∀ {xs ys : List AV}, PSL b sz es blk N xs ys → xs.length = ys.length ∧ ∀ (i : Nat) y, ys[i]? = some y → ∃ x, xs[i]? = some x ∧ PS b sz es blk N x y
  | [], [], _ => ⟨rfl, fun i y h => by simp at h⟩
  | x :: r, y :: s, ⟨h1, h2⟩ => by
    obtain ⟨k1, k2⟩ := PSL.get h2
    refine ⟨by simp [k1], fun i z hz => ?_⟩
    cases i with
    | zero => simp at hz; subst hz; exact ⟨x, rfl, h1⟩
    | succ i => simp at hz; simpa using k2 i z hz
  | [], _ :: _, h => h.elim
  | _ :: _, [], h => h.elim
end
section
variable {P : Program} {c : Conf} {n : Nat} {ops : Array Oper} {rest : List Oper} {env : Env} {σ : St} {o : Oper} {K : Exit → Env → St → Prop} {k : Env → St → Prop}
/- contracts whose answers are known but for where they lie -/
def CtF (P : Program) (f : Nat) (as : List AV) (σ : St) {ι : Type} (V : ι → Prop) (r : ι → AV) (s : ι → St) : Prop :=
  (∃ fn, P.funcs[f]? = some fn ∧ fn.body.isSome = true) ∧ ∀ (vs : List Value) (w : World) (g : G), RelL w g vs as → Inv w g σ → Calls P f vs.toArray w fun e w' => ∃ v g' i, e = .returned v ∧ V i ∧ Ext w g w' g' ∧ Rel w' g' v (r i) ∧ Inv w' g' (s i)
theorem CtF.args {f : Nat} {as as0 : List AV} {ι : Type} {V : ι → Prop} {r : ι → AV} {s : ι → St} (h : CtF P f as0 σ V r s) (hs : SubL as as0) : CtF P f as σ V r s :=
  ⟨h.1, fun vs w g hr hi => h.2 vs w g (hs.rel hr) hi⟩
end
end Go.Am
/- Ay -/
namespace Go.Am
section
variable {P : Program} {c : Conf} {n k m : Nat} {ops : Array Oper} {news : List Nat}
theorem Runs.app {alt : Oper → Env → Prop} (hal : AltOk ops alt) : ∀ {l1 l2 : List Nat} {env e1 e : Env} {σ s1 s : St}, Runs P c alt n ops news l1 env σ e1 s1 → Runs P c alt n ops news l2 e1 s1 e s → Runs P c alt n ops news (l1 ++ l2) env σ e s
  | [], l2, env, e1, e, σ, s1, s, h1, h2 => h2.congr hal (fun t => h1.1 t) (fun b => h1.2 b)
  | i :: r, l2, env, e1, e, σ, s1, s, ⟨o, y, nb, e2, s2, a1, a2, a3, a4, a5⟩, h2 => ⟨o, y, nb, e2, s2, a1, a2, a3, a4, Runs.app hal a5 h2⟩
end
end Go.Am
/- Hw19 -/
namespace Go.Am
section
variable {P : Program} {c : Conf} {n : Nat} {ops : Array Oper} {rest : List Oper} {env : Env} {σ : St} {o : Oper} {k : Env → St → Prop}
theorem w_nilQ (hp0 : ProgOk P c) {t yt e s0 b0 sz sz' : Nat} {z0 : List T} {xo yo : Operand} {m : SM} {es : List (List T)} {e2 : Bool → Env} (hg : o.guard = none) (ho : o.op = .binOp .eql t xo yo yt) (hx : ev env xo = some (.t (.slice m sz es))) (hy : ev env yo = some (.t (.slice .nil sz' [])))
    (ht : look c.te t = some ⟨s0, b0, z0, .slice e⟩) (hp : ∀ b, putV n o.dst (.t (.bool b)) env = some (e2 b)) (h : ∀ b, (b = true → es = []) → hOps P n ops rest (e2 b) σ k) : hOps P n ops (o :: rest) env σ k := by
  simp only [hOps, wantedH, hg]
  intro w g a hi hee
  have rx := rel_t_inv (ev_rel hee hx)
  have ry := rel_t_inv (ev_rel hee hy)
  have hv : a.eval yo = .slice none 0 0 := by
    generalize a.eval yo = v at ry
    cases ry with
    | sliceNil => rfl
    | sliceZ _ _ _ hm => exact absurd rfl hm
    | slice _ _ _ _ _ _ _ _ _ _ _ hm => exact absurd rfl hm
  have hu := und_slice (hp0.te _ _ ht) w rfl
  have fin : ∀ b, (b = true → es = []) → (execOp a.eval o).run P w = .ok (.value (.bool b)) w → Does P o a w fun v w' => ∃ x e s, Post w g a x e s v w' ∧ putH n o.dst x e fun e2 => hOps P n ops rest e2 s k := fun b hb hrun =>
    Does.value hrun ⟨.t (.bool b), env, σ, ⟨g, Ext.refl _ _, .t _ _ (.bool b), hi, hee⟩, e2 b, hp b, h b hb⟩
  rcases slice_inv rx with ⟨h1, h2⟩ | ⟨b, off, cap, h1, _, _, _, _, _⟩ | ⟨az, h1, h2, _⟩
  · refine fin true (fun _ => h2) ?_
    have := bin_eq (P := P) (w := w) (t := t) (eqIn_slice_nil hu) rfl
    simp [execOp, ho, h1, hv, gd_slice, this]
  · refine fin false (fun hb => by cases hb) ?_
    have := bin_eq (P := P) (w := w) (t := t) (eqIn_slice_some (a := ⟨b, off, none⟩) (l := es.length) (c := cap) hu) rfl
    simp [execOp, ho, h1, hv, gd_slice, this]
  · refine fin false (fun hb => by cases hb) ?_
    have := bin_eq (P := P) (w := w) (t := t) (eqIn_slice_some (a := az) (l := 0) (c := 0) hu) rfl
    simp [execOp, ho, h1, hv, gd_slice, this]
theorem s_indexE {news : List Nat} {t s0 b0 e : Nat} {z0 : List T} {esz ebb : Nat} {ez : List T} {ek : TK} {xo io : Operand} {m : SM} {sz : Nat} {es : List (List T)} {kk : IntKind} {kc : Nat} {nn : Int} {cc : List T} {e2 : Env} (hg : o.guard = none) (ho : o.op = .indexAddr t xo io) (hx : ev env xo = some (.t (.slice m sz es)))
    (hi : ev env io = some (.t (.int kk nn))) (ht : look c.te t = some ⟨s0, b0, z0, .slice e⟩) (he : look c.te e = some ⟨esz, ebb, ez, ek⟩) (hsz : sz = esz) (hn : nn = (kc : Int)) (hc : es[kc]? = some cc) (hp : putV n o.dst (.t (.ptr cc)) env = some e2)
    (h : hSK P c n ops news rest e2 σ k) : hSK P c n ops news (o :: rest) env σ k := by
  subst hn
  simp only [hSK, wantedH, hg]
  refine ⟨noCf, .t (.ptr cc), [], noCf_ok, ?_, e2, hp, h⟩
  unfold stillV
  rw [ho]
  simp only [pureV, hx, hi, indexAddrV, natOf_ofNat, ht, he, hsz, hc, if_true]
end
end Go.Am
