/- What the proofs about trees use, at any seat. -/
import Derived.Test.YthjfkblnbecjgaaGreatDoorSxLaw
set_option linter.unusedVariables false
namespace Go.Sx
/-- With one number's range narrowed. -/
def FSpec.withRng (s : FSpec) (i : Nat) (lo hi : Int) : FSpec := { s with irng := (i, lo, hi) :: s.irng }
/-- A contract, by the ranges of a number. -/
theorem holds_split {P : Program} {ro : List (Addr × Value)} {s : FSpec} (i : Nat) (hi : i < s.ni) (hs : ∀ x : Int, (∀ r ∈ s.irng, r.1 = i → r.2.1 ≤ x ∧ x ≤ r.2.2) → ∃ lo hi, lo ≤ x ∧ x ≤ hi ∧ (s.withRng i lo hi).Holds P ro) : s.Holds P ro := by
  intro w ρ hro rep hok hpre
  have f0 := rep.facts .nil
  rw [Env.app_nil] at f0
  obtain ⟨lo, hi', h1, h2, hh⟩ := hs (ρ.is.getD i 0) fun r hr e => by
    have := f0.rng r hr
    rw [e] at this
    exact this
  have hl : i < ρ.is.length := by rw [rep.ni]; exact hi
  have rep' : RepH ((s.withRng i lo hi').ctx ρ w ro) ρ (s.withRng i lo hi').H0 w := by
    refine ⟨rep.ni, rep.nl, rep.nb, fun σ => ?_, rep.frame⟩
    have f := rep.facts σ
    refine ⟨f.heap, f.nodup, fun r hr => ?_, f.defs, f.lrng⟩
    rcases List.mem_cons.1 hr with rfl | hr
    · rw [show (ρ.app σ).is.getD i 0 = ρ.is.getD i 0 from getD_app hl]
      exact ⟨h1, h2⟩
    · exact f.rng r hr
  have := hh w ρ hro rep' hok hpre
  refine this.mono ?_
  rintro v w' ⟨τ, hp⟩
  exact ⟨τ, ⟨hp.li, hp.ll, hp.lb, hp.rel, hp.val, hp.rep⟩⟩
theorem exe_withPre (s : FSpec) (q : List Int → Prop) : (s.withPre q).exe = s.exe := rfl
theorem exe_withPre_rng (s : FSpec) (q : List Int → Prop) (i : Nat) (lo hi : Int) : ((s.withPre q).withRng i lo hi).exe = (s.withRng i lo hi).exe := rfl
/-- The first contract that fits. -/
def either (s : FSpec) (t : Spec) : Spec := ⟨s.f, fun args h k => if s.fits args h (s.guess args h) then s.run args h k else t.run args h k⟩
theorem either_ok {P : Program} {ro : List (Addr × Value)} {s : FSpec} {t : Sx.Spec} (hs : s.Holds P ro) (ht : t.Ok P ro) (hf : t.f = s.f) : (either s t).Ok P ro := by
  intro Φ C ρ h w args k K hro hok r hd hk
  unfold either at hd
  simp only at hd
  split at hd
  · exact FSpec.spec_ok hs Φ C ρ h w args k K hro hok r hd hk
  · have := ht Φ C ρ h w args k K hro hok r hd hk
    rw [hf] at this
    exact this
/-- A tree that asks nothing. -/
def Tree.calm : Tree → Bool
  | .done _ _ => true
  | .letI _ t => t.calm
  | .letL _ t => t.calm
  | .ite _ t e => t.calm && e.calm
  | .both a b => a.calm && b.calm
  | .any _ _ t => t.calm
  | _ => false
theorem calm_ok {Φ : Phi} (hΦ : ∀ xs ls, Φ.post xs ls) : ∀ (t : Tree) (is : List Int) (lls : List (List Int)), t.calm = true → t.den Φ is lls
  | .done _ _, _, _, _ => by simp only [Tree.den]; exact hΦ _ _
  | .letI _ t, is, lls, h => by simp only [Tree.den]; exact fun x _ => calm_ok hΦ t _ _ h
  | .letL _ t, is, lls, h => by simp only [Tree.den]; exact fun x _ => calm_ok hΦ t _ _ h
  | .ite _ t e, is, lls, h => by
    simp only [Tree.calm, Bool.and_eq_true] at h
    simp only [Tree.den]
    exact ⟨fun _ => calm_ok hΦ t _ _ h.1, fun _ => calm_ok hΦ e _ _ h.2⟩
  | .both a b, is, lls, h => by
    simp only [Tree.calm, Bool.and_eq_true] at h
    simp only [Tree.den]
    exact ⟨calm_ok hΦ a _ _ h.1, calm_ok hΦ b _ _ h.2⟩
  | .any _ _ t, is, lls, h => by simp only [Tree.den]; exact fun x _ _ => calm_ok hΦ t _ _ h
  | .fail _, _, _, h => by cases h
  | .need .., _, _, h => by cases h
  | .call .., _, _, h => by cases h
  | .loop .., _, _, h => by cases h
  | .again .., _, _, h => by cases h
  | .exit .., _, _, h => by cases h
/-- A call that asks nothing and tells nothing. -/
theorem call_none {Φ : Phi} {f : FuncId} {t : Tree} {is : List Int} {lls : List (List Int)} : (Tree.call f ⟨(fun _ _ => True), (fun _ _ _ _ => True)⟩ [] [] 0 0 t).den Φ is lls ↔ t.den Φ is lls := by
  simp only [Tree.den]
  constructor
  · intro h
    have := h.2 [] [] rfl rfl trivial
    simpa using this
  · intro h
    refine ⟨trivial, fun xs ys hx hy _ => ?_⟩
    obtain rfl := List.length_eq_zero_iff.1 hx
    obtain rfl := List.length_eq_zero_iff.1 hy
    simpa using h
/-- A call of a function of numbers to one number. -/
theorem call_fn {Φ : Phi} {f : FuncId} {t : Tree} {F : List Int → Int} {as : List At} {is : List Int} {lls : List (List Int)} :
    (Tree.call f ⟨(fun _ _ => True), (fun is _ xs _ => xs = [F is])⟩ as [] 1 0 t).den Φ is lls ↔ t.den Φ (is ++ [F (as.map (·.den is))]) lls := by
  simp only [Tree.den]
  constructor
  · intro h
    have := h.2 [F (as.map (·.den is))] [] rfl rfl rfl
    simpa using this
  · intro h
    refine ⟨trivial, fun xs ys hx hy e => ?_⟩
    have e' : xs = [F (as.map (·.den is))] := e
    subst e'
    obtain rfl := List.length_eq_zero_iff.1 hy
    simpa using h
theorem list0 {l' : List Int} (h : l'.length = 0) : l' = [] := by
  exact List.length_eq_zero_iff.1 h
theorem list1 {l' : List Int} (h : l'.length = 1) : ∃ a, l' = [a] := by
  match l', h with
  | [a], _ => exact ⟨a, rfl⟩
theorem list2 {l' : List Int} (h : l'.length = 2) : ∃ a b, l' = [a, b] := by
  match l', h with
  | [a, b], _ => exact ⟨a, b, rfl⟩
theorem list3 {l' : List Int} (h : l'.length = 3) : ∃ a b c, l' = [a, b, c] := by
  match l', h with
  | [a, b, c], _ => exact ⟨a, b, c, rfl⟩
theorem list4 {l' : List Int} (h : l'.length = 4) : ∃ a b c d, l' = [a, b, c, d] := by
  match l', h with
  | [a, b, c, d], _ => exact ⟨a, b, c, d, rfl⟩
theorem list5 {l' : List Int} (h : l'.length = 5) : ∃ a b c d e, l' = [a, b, c, d, e] := by
  match l', h with
  | [a, b, c, d, e], _ => exact ⟨a, b, c, d, e, rfl⟩
theorem list6 {l' : List Int} (h : l'.length = 6) : ∃ a b c d e f, l' = [a, b, c, d, e, f] := by
  match l', h with
  | [a, b, c, d, e, f], _ => exact ⟨a, b, c, d, e, f, rfl⟩
theorem list7 {l' : List Int} (h : l'.length = 7) : ∃ a b c d e f g, l' = [a, b, c, d, e, f, g] := by
  match l', h with
  | [a, b, c, d, e, f, g], _ => exact ⟨a, b, c, d, e, f, g, rfl⟩
theorem list8 {l' : List Int} (h : l'.length = 8) : ∃ a b c d e f g i, l' = [a, b, c, d, e, f, g, i] := by
  match l', h with
  | [a, b, c, d, e, f, g, i], _ => exact ⟨a, b, c, d, e, f, g, i, rfl⟩
theorem list9 {l' : List Int} (h : l'.length = 9) : ∃ a b c d e f g i j, l' = [a, b, c, d, e, f, g, i, j] := by
  match l', h with
  | [a, b, c, d, e, f, g, i, j], _ => exact ⟨a, b, c, d, e, f, g, i, j, rfl⟩
theorem list10 {l' : List Int} (h : l'.length = 10) : ∃ a b c d e f g i j k, l' = [a, b, c, d, e, f, g, i, j, k] := by
  match l', h with
  | [a, b, c, d, e, f, g, i, j, k], _ => exact ⟨a, b, c, d, e, f, g, i, j, k, rfl⟩
theorem list11 {l' : List Int} (h : l'.length = 11) : ∃ a b c d e f g i j k l, l' = [a, b, c, d, e, f, g, i, j, k, l] := by
  match l', h with
  | [a, b, c, d, e, f, g, i, j, k, l], _ => exact ⟨a, b, c, d, e, f, g, i, j, k, l, rfl⟩
theorem list12 {l' : List Int} (h : l'.length = 12) : ∃ a b c d e f g i j k l m, l' = [a, b, c, d, e, f, g, i, j, k, l, m] := by
  match l', h with
  | [a, b, c, d, e, f, g, i, j, k, l, m], _ => exact ⟨a, b, c, d, e, f, g, i, j, k, l, m, rfl⟩
theorem list13 {l' : List Int} (h : l'.length = 13) : ∃ a b c d e f g i j k l m n, l' = [a, b, c, d, e, f, g, i, j, k, l, m, n] := by
  match l', h with
  | [a, b, c, d, e, f, g, i, j, k, l, m, n], _ => exact ⟨a, b, c, d, e, f, g, i, j, k, l, m, n, rfl⟩
end Go.Sx
