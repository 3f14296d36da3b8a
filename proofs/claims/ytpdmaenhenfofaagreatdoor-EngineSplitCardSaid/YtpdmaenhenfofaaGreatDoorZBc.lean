/- Walks: trees that are known less well. -/
import Derived.Test.YtpdmaenhenfofaaGreatDoorZM10
set_option linter.unusedVariables false
set_option linter.unusedSimpArgs false
namespace Go.Am
def SubT (x y : T) : Prop := (oneT x = true → oneT y = true) ∧ ∀ w M v, RelT w M v x → RelT w M v y
def SubTs : List T → List T → Prop
  | [], [] => True
  | x :: r, y :: s => SubT x y ∧ SubTs r s
  | _, _ => False
def SubTss : List (List T) → List (List T) → Prop
  | [], [] => True
  | x :: r, y :: s => SubTs x y ∧ SubTss r s
  | _, _ => False
theorem SubT.refl (x : T) : SubT x x := ⟨id, fun _ _ _ h => h⟩
theorem SubT.nil {m : SM} {sz sz' : Nat} : SubT (.slice m sz []) (.slice .any sz' []) := ⟨fun _ => rfl, fun _ _ _ h => sub_nilT h⟩
theorem SubT.sub {x y : T} (h : SubT x y) : Sub (.t x) (.t y) := fun _ _ _ hr => .t _ _ (h.2 _ _ _ (rel_t_inv hr))
theorem SubTs.len : ∀ {a b : List T}, SubTs a b → a.length = b.length
  | [], [], _ => rfl
  | x :: r, y :: s, h => by simp [SubTs.len h.2]
  | [], _ :: _, h => h.elim
  | _ :: _, [], h => h.elim
theorem SubTs.get : ∀ {a b : List T}, SubTs a b → ∀ (i : Nat) y, b[i]? = some y → ∃ x, a[i]? = some x ∧ SubT x y
  | [], [], _, i, y, hy => by simp at hy
  | x :: r, z :: s, h, 0, y, hy => by simp at hy; subst hy; exact ⟨x, rfl, h.1⟩
  | x :: r, z :: s, h, i + 1, y, hy => by
    obtain ⟨u, h1, h2⟩ := SubTs.get h.2 i y (by simpa using hy)
    exact ⟨u, by simpa using h1, h2⟩
  | [], _ :: _, h, _, _, _ => h.elim
  | _ :: _, [], h, _, _, _ => h.elim
theorem SubTs.app : ∀ {a b c d : List T}, SubTs a b → SubTs c d → SubTs (a ++ c) (b ++ d)
  | [], [], _, _, _, h => h
  | x :: r, y :: s, _, _, h1, h2 => ⟨h1.1, SubTs.app h1.2 h2⟩
  | [], _ :: _, _, _, h, _ => h.elim
  | _ :: _, [], _, _, h, _ => h.elim
theorem SubTss.flat : ∀ {a b : List (List T)}, SubTss a b → a.length = b.length ∧ SubTs a.flatten b.flatten ∧ ∀ sz, (∀ e ∈ a, e.length = sz) → ∀ e ∈ b, e.length = sz
  | [], [], _ => ⟨rfl, trivial, fun _ _ _ h => by simp at h⟩
  | x :: r, y :: s, h => by
    obtain ⟨h1, h2, h3⟩ := SubTss.flat h.2
    refine ⟨by simp [h1], by simpa using h.1.app h2, fun sz hs e he => ?_⟩
    rcases List.mem_cons.1 he with rfl | he
    · rw [← h.1.len]; exact hs x (by simp)
    · exact h3 sz (fun z hz => hs z (by simp [hz])) e he
  | [], _ :: _, h => h.elim
  | _ :: _, [], h => h.elim
theorem SubT.slice {m : SM} {sz : Nat} {es es' : List (List T)} (h : SubTss es es') : SubT (.slice m sz es) (.slice .any sz es') := by
  obtain ⟨h1, h2, h3⟩ := h.flat
  refine ⟨fun _ => rfl, fun w M v hr => ?_⟩
  cases hr with
  | sliceNil =>
    cases es' with
    | nil => exact .sliceNil _ _
    | cons => simp at h1
  | sliceZ a _ _ hm =>
    cases es' with
    | nil => exact .sliceZ a _ _ (by simp)
    | cons => simp at h1
  | slice b off len cap _ _ _ vs hl hc hf hm hp hsz hone hcell hrel =>
    refine .slice b off len cap .any sz es' vs (by omega) hc (fun h => by cases h) (by simp) (fun _ _ h => by cases h) (h3 sz hsz) (fun i y hy => ?_) (fun i y hy => ?_) (fun i y hy => ?_)
    · obtain ⟨x, q1, q2⟩ := h2.get i y hy; exact q2.1 (hone i x q1)
    · obtain ⟨x, q1, q2⟩ := h2.get i y hy; exact hcell i x q1
    · obtain ⟨x, q1, q2⟩ := h2.get i y hy; exact q2.2 _ _ _ (hrel i x q1)
theorem sub_sl {m : SM} {sz : Nat} {es es' : List (List T)} (h : SubTss es es') : Sub (.t (.slice m sz es)) (.t (.slice .any sz es')) := (SubT.slice h).sub
end Go.Am
