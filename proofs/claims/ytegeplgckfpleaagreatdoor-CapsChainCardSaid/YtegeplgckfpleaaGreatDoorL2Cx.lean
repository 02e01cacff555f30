/- What the contracts of capabilities tell, in parts. -/
import Derived.Test.YtegeplgckfpleaaGreatDoorL2C
import Derived.Test.YtegeplgckfpleaaGreatDoorPuCl
set_option linter.unusedVariables false
namespace Go.Sx
theorem vecl {a r b : Int} (h0 : 0 ≤ a) (h : a ≤ r) (hb : b = (if r = 0 then (0 : Int) else a)) : b = a := by rw [hb]; split <;> omega
structure GoPost (W : List Int) (n : Int) (L : List Int) (e s a r d err : Int) (L1 M2 : List Int) : Prop where
  a0 : 0 ≤ a
  len : a * 2 = (L1.length : Int)
  room : a ≤ r
  num : d = a * 2
  err : err = lookE n L e s
  ok : lookE n L e s = 0 → L1 = W ∧ M2 = emptyC L W
  no : lookE n L e s ≠ 0 → L1 = [] ∧ M2 = L
theorem cgo_post {W : Int → List Int → Int → Int → List Int} {n m e s a r d t err : Int} {L L1 M2 : List Int} (h : (L2.cGoRel W).post [n, m, e, s] [L] [a, r, d, t, err] [L1, M2]) : GoPost (W n L e s) n L e s a r d err L1 M2 := by
  have h : a * 2 = (L1.length : Int) ∧ a ≤ r ∧ d = a * 2 ∧ t = r * 2 ∧ err = lookE n L e s ∧ [L1, M2] = (if lookE n L e s = 0 then [W n L e s, emptyC L (W n L e s)] else [[], L]) := h
  obtain ⟨h1, h2, h3, h4, h5, h6⟩ := h
  refine ⟨by omega, h1, h2, h3, h5, fun c => ?_, fun c => ?_⟩
  · rw [if_pos c] at h6; simpa using h6
  · rw [if_neg c] at h6; simpa using h6
structure SelPost (W : List Int) (a r : Int) (L1 : List Int) : Prop where
  a0 : 0 ≤ a
  len : a * 2 = (W.length : Int)
  room : a ≤ r
  list : L1 = W
theorem cbelow_post {n m e s a r d t : Int} {L L1 : List Int} (h : (L2.cBelow).rel.post [n, m, e, s] [L] [a, r, d, t] [L1]) : SelPost (belowL n L e s) a r L1 := by
  have h : a * 2 = ((belowL n L e s).length : Int) ∧ a ≤ r ∧ d = a * 2 ∧ t = r * 2 ∧ [L1] = [belowL n L e s] := h
  exact ⟨by omega, h.1, h.2.1, by simpa using h.2.2.2.2⟩
theorem cof_post {n m f a r d t : Int} {L L1 : List Int} (h : (L2.cOf).rel.post [n, m, f] [L] [a, r, d, t] [L1]) : SelPost (ofL n L f) a r L1 := by
  have h : a * 2 = ((ofL n L f).length : Int) ∧ a ≤ r ∧ d = a * 2 ∧ t = r * 2 ∧ [L1] = [ofL n L f] := h
  exact ⟨by omega, h.1, h.2.1, by simpa using h.2.2.2.2⟩
theorem cat_post {n m e s f r pe ps ok : Int} {L : List Int} (h : (L2.cAt).rel.post [n, m, e, s] [L] [f, r, pe, ps, ok] []) : f = capV n L e s 0 ∧ r = capV n L e s 1 ∧ pe = capV n L e s 2 ∧ ps = capV n L e s 3 ∧ ok = b2i (capOk n L e s) := by
  have h : [f, r, pe, ps, ok] = [capV n L e s 0, capV n L e s 1, capV n L e s 2, capV n L e s 3, b2i (capOk n L e s)] := h.1
  simpa using h
theorem cder_post {n m e s t d r v : Int} {L L1 : List Int} (h : (L2.cDer).rel.post [n, m, e, s, t, d, r] [L] [v] [L1]) : v = derE n L e s t d r ∧ L1 = derL n L e s t d r := by
  have h : [v] = [derE n L e s t d r] ∧ [L1] = [derL n L e s t d r] := h
  simpa using h
theorem croot_post {n m e s f v : Int} {L L1 : List Int} (h : (L2.cRoot).rel.post [n, m, e, s, f] [L] [v] [L1]) : v = rootE n L e s f ∧ L1 = rootL n L e s f := by
  have h : [v] = [rootE n L e s f] ∧ [L1] = [rootL n L e s f] := h
  simpa using h
end Go.Sx
