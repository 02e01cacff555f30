/- A load, a store in a memory of many frames. -/
import Derived.Test.YtbpilohnhhbbpabGreatDoorPuVx
set_option linter.unusedVariables false
set_option linter.constructorNameAsVariable false
namespace Go.Sx
section
variable {Ls : List (List Int)} {K : Nat} {f a c3 c4 : Int} {c0 : Int}
theorem map_same (h : Ls.length = K) {g : Nat → List Int} (hg : ∀ j, j < K → g j = Ls.getD j []) : Ls = (List.range K).map g := by
  apply List.ext_getElem?
  intro i
  by_cases hi : i < K
  · rw [List.getElem?_map, List.getElem?_range hi, Option.map_some, hg i hi, List.getD_eq_getElem?_getD, List.getElem?_eq_getElem (by omega)]; rfl
  · rw [List.getElem?_eq_none (by omega), List.getElem?_eq_none (by simp; omega)]
theorem map_set (h : Ls.length = K) {g : Nat → List Int} {j : Nat} {y : List Int} (hj : j < K) (hy : g j = y) (hg : ∀ i, i < K → i ≠ j → g i = Ls.getD i []) : Ls.set j y = (List.range K).map g := by
  apply List.ext_getElem?
  intro i
  by_cases hi : i < K
  · rw [List.getElem?_map, List.getElem?_range hi, Option.map_some]
    by_cases hij : i = j
    · subst hij
      rw [List.getElem?_set_self (by omega), hy]
    · rw [List.getElem?_set_ne (fun c => hij c.symm), hg i hi hij, List.getD_eq_getElem?_getD, List.getElem?_eq_getElem (by omega)]; rfl
  · rw [List.getElem?_eq_none (by simp; omega), List.getElem?_eq_none (by simp; omega)]
theorem touchL_ne {i : Nat} (h : f ≠ i) : touchL Ls K f c0 a c3 c4 i = Ls.getD i [] := by
  unfold touchL; dsimp only; rw [if_neg (fun c => h c.2)]
theorem tOut (hl : Ls.length = K) (h : inM K f a = false) : [(0 : Int)] = [touchV Ls K f c0 a] ∧ Ls = (List.range K).map fun j => touchL Ls K f c0 a c3 c4 j := by
  refine ⟨by unfold touchV wordM; rw [h]; simp, map_same hl fun j _ => ?_⟩
  unfold touchL; dsimp only; rw [h]; simp
variable (hl : Ls.length = K) {j : Nat} (hj : j < K) (hf : f = (j : Int)) (a0 : 0 ≤ a) (a16 : a < 16)
include hj hf a0 a16
theorem inM_at : inM K f a = true := by subst hf; simp [inM]; omega
theorem word_at : wordM Ls K f a = (Ls.getD j []).getD a.toNat 0 := by
  unfold wordM; rw [if_pos (inM_at hj hf a0 a16), hf, Int.toNat_natCast]
include hl
theorem tLd {x : Int} (hx : x = (Ls.getD j []).getD a.toNat 0) : [x] = [touchV Ls K f 20 a] ∧ Ls = (List.range K).map fun j => touchL Ls K f 20 a c3 c4 j := by
  refine ⟨by unfold touchV; rw [if_pos (.inl rfl), word_at hj hf a0 a16, hx], map_same hl fun j _ => ?_⟩
  unfold touchL; dsimp only; simp
theorem tSt {y : List Int} (hy : y = (Ls.getD j []).set a.toNat c3) : [(0 : Int)] = [touchV Ls K f 21 a] ∧ Ls.set j y = (List.range K).map fun j => touchL Ls K f 21 a c3 c4 j := by
  refine ⟨by unfold touchV; simp, map_set hl hj ?_ fun i hi hij => touchL_ne (by omega)⟩
  unfold touchL; dsimp only; rw [if_pos ⟨inM_at hj hf a0 a16, hf⟩, hy]; simp
theorem tCasY {x : Int} {y : List Int} (hx : x = (Ls.getD j []).getD a.toNat 0) (hc : c3 = x) (hy : y = (Ls.getD j []).set a.toNat c4) : [x] = [touchV Ls K f 22 a] ∧ Ls.set j y = (List.range K).map fun j => touchL Ls K f 22 a c3 c4 j := by
  refine ⟨by unfold touchV; rw [if_pos (by simp), word_at hj hf a0 a16, hx], map_set hl hj ?_ fun i hi hij => touchL_ne (by omega)⟩
  unfold touchL; dsimp only; rw [if_pos ⟨inM_at hj hf a0 a16, hf⟩, if_neg (by decide), if_pos rfl, if_pos (by rw [hc, hx]), hy]
theorem tCasN {x : Int} (hx : x = (Ls.getD j []).getD a.toNat 0) (hc : c3 ≠ x) : [x] = [touchV Ls K f 22 a] ∧ Ls = (List.range K).map fun j => touchL Ls K f 22 a c3 c4 j := by
  refine ⟨by unfold touchV; rw [if_pos (by simp), word_at hj hf a0 a16, hx], map_same hl fun i _ => ?_⟩
  by_cases hij : i = j
  · subst hij
    unfold touchL; dsimp only; rw [if_pos ⟨inM_at hj hf a0 a16, hf⟩, if_neg (by decide), if_pos rfl, if_neg (fun c => hc (by rw [hx, c]))]
  · exact touchL_ne (by omega)
theorem tAdd {x z : Int} {y : List Int} (hx : x = (Ls.getD j []).getD a.toNat 0) (hz : z = IntKind.wrap .u64 (x + c3)) (hy : y = (Ls.getD j []).set a.toNat z) : [x] = [touchV Ls K f 23 a] ∧ Ls.set j y = (List.range K).map fun j => touchL Ls K f 23 a c3 c4 j := by
  refine ⟨by unfold touchV; rw [if_pos (by simp), word_at hj hf a0 a16, hx], map_set hl hj ?_ fun i hi hij => touchL_ne (by omega)⟩
  unfold touchL; dsimp only; rw [if_pos ⟨inM_at hj hf a0 a16, hf⟩, if_neg (by decide), if_neg (by decide), if_pos rfl, hy, hz, hx]
end
theorem tNone {Ls : List (List Int)} {K : Nat} {f a c0 c3 c4 : Int} (hl : Ls.length = K) (h : c0 < 20 ∨ 23 < c0) : [(0 : Int)] = [touchV Ls K f c0 a] ∧ Ls = (List.range K).map fun j => touchL Ls K f c0 a c3 c4 j := by
  refine ⟨by unfold touchV; rw [if_neg (by omega)], map_same hl fun j _ => ?_⟩
  unfold touchL; dsimp only
  rw [if_neg (by omega : ¬ c0 = 21), if_neg (by omega : ¬ c0 = 22), if_neg (by omega : ¬ c0 = 23)]
  simp
end Go.Sx
