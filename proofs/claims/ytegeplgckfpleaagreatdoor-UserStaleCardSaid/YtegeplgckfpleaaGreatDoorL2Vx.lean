/- What the contracts of loads and stores tell, in parts. -/
import Derived.Test.YtegeplgckfpleaaGreatDoorL2V
import Derived.Test.YtegeplgckfpleaaGreatDoorPuVx
set_option linter.unusedVariables false
namespace Go.Sx
theorem udo1_post {cap env c0 c1 c2 c3 c4 e v w0 w1 w2 w3 : Int} {B T M0 B' N0 : List Int} (h : (L2.uDo 1).rel.post [cap, env, c0, c1, c2, c3, c4] [B, T, M0] [e, v, w0, w1, w2, w3] [B', N0]) :
    e = doR B T env c0 c1 c2 c3 c4 ∧ v = doV B T [M0] 1 env c0 c1 c2 c3 c4 ∧ w0 = doW B T env c0 c1 c2 c3 c4 0 ∧ w1 = doW B T env c0 c1 c2 c3 c4 1 ∧ w2 = doW B T env c0 c1 c2 c3 c4 2 ∧ w3 = doW B T env c0 c1 c2 c3 c4 3 ∧ B' = doB B T env c0 c1 c2 c3 c4 ∧ N0 = doM B T [M0] 1 env c0 c1 c2 c3 c4 0 := by
  have h : [e, v, w0, w1, w2, w3] = [doR B T env c0 c1 c2 c3 c4, doV B T [M0] 1 env c0 c1 c2 c3 c4, doW B T env c0 c1 c2 c3 c4 0, doW B T env c0 c1 c2 c3 c4 1, doW B T env c0 c1 c2 c3 c4 2, doW B T env c0 c1 c2 c3 c4 3] ∧ [B', N0] = doB B T env c0 c1 c2 c3 c4 :: (List.range 1).map fun j => doM B T [M0] 1 env c0 c1 c2 c3 c4 j := h
  rw [range1] at h
  simp only [List.cons.injEq, and_true] at h
  obtain ⟨⟨h1, h2, h3, h4, h5, h6⟩, h7⟩ := h
  exact ⟨h1, h2, h3, h4, h5, h6, h7⟩
theorem udo2_post {cap env c0 c1 c2 c3 c4 e v w0 w1 w2 w3 : Int} {B T M0 M1 B' N0 N1 : List Int} (h : (L2.uDo 2).rel.post [cap, env, c0, c1, c2, c3, c4] [B, T, M0, M1] [e, v, w0, w1, w2, w3] [B', N0, N1]) :
    e = doR B T env c0 c1 c2 c3 c4 ∧ v = doV B T [M0, M1] 2 env c0 c1 c2 c3 c4 ∧ w0 = doW B T env c0 c1 c2 c3 c4 0 ∧ w1 = doW B T env c0 c1 c2 c3 c4 1 ∧ w2 = doW B T env c0 c1 c2 c3 c4 2 ∧ w3 = doW B T env c0 c1 c2 c3 c4 3 ∧ B' = doB B T env c0 c1 c2 c3 c4 ∧ N0 = doM B T [M0, M1] 2 env c0 c1 c2 c3 c4 0 ∧ N1 = doM B T [M0, M1] 2 env c0 c1 c2 c3 c4 1 := by
  have h : [e, v, w0, w1, w2, w3] = [doR B T env c0 c1 c2 c3 c4, doV B T [M0, M1] 2 env c0 c1 c2 c3 c4, doW B T env c0 c1 c2 c3 c4 0, doW B T env c0 c1 c2 c3 c4 1, doW B T env c0 c1 c2 c3 c4 2, doW B T env c0 c1 c2 c3 c4 3] ∧ [B', N0, N1] = doB B T env c0 c1 c2 c3 c4 :: (List.range 2).map fun j => doM B T [M0, M1] 2 env c0 c1 c2 c3 c4 j := h
  rw [range2] at h
  simp only [List.cons.injEq, and_true] at h
  obtain ⟨⟨h1, h2, h3, h4, h5, h6⟩, h7⟩ := h
  exact ⟨h1, h2, h3, h4, h5, h6, h7⟩
theorem udo3_post {cap env c0 c1 c2 c3 c4 e v w0 w1 w2 w3 : Int} {B T M0 M1 M2 B' N0 N1 N2 : List Int} (h : (L2.uDo 3).rel.post [cap, env, c0, c1, c2, c3, c4] [B, T, M0, M1, M2] [e, v, w0, w1, w2, w3] [B', N0, N1, N2]) :
    e = doR B T env c0 c1 c2 c3 c4 ∧ v = doV B T [M0, M1, M2] 3 env c0 c1 c2 c3 c4 ∧ w0 = doW B T env c0 c1 c2 c3 c4 0 ∧ w1 = doW B T env c0 c1 c2 c3 c4 1 ∧ w2 = doW B T env c0 c1 c2 c3 c4 2 ∧ w3 = doW B T env c0 c1 c2 c3 c4 3 ∧ B' = doB B T env c0 c1 c2 c3 c4 ∧ N0 = doM B T [M0, M1, M2] 3 env c0 c1 c2 c3 c4 0 ∧ N1 = doM B T [M0, M1, M2] 3 env c0 c1 c2 c3 c4 1 ∧ N2 = doM B T [M0, M1, M2] 3 env c0 c1 c2 c3 c4 2 := by
  have h : [e, v, w0, w1, w2, w3] = [doR B T env c0 c1 c2 c3 c4, doV B T [M0, M1, M2] 3 env c0 c1 c2 c3 c4, doW B T env c0 c1 c2 c3 c4 0, doW B T env c0 c1 c2 c3 c4 1, doW B T env c0 c1 c2 c3 c4 2, doW B T env c0 c1 c2 c3 c4 3] ∧ [B', N0, N1, N2] = doB B T env c0 c1 c2 c3 c4 :: (List.range 3).map fun j => doM B T [M0, M1, M2] 3 env c0 c1 c2 c3 c4 j := h
  rw [range3] at h
  simp only [List.cons.injEq, and_true] at h
  obtain ⟨⟨h1, h2, h3, h4, h5, h6⟩, h7⟩ := h
  exact ⟨h1, h2, h3, h4, h5, h6, h7⟩
/-- A load, a store of UserKinds. -/
theorem k_step {B M N : List Int} {x k c3 c4 cap e v w0 w1 w2 w3 : Int} {B' : List Int} (hB : B = b0 ∨ B = kB1) (hl : M.length = 16) (hx : M.getD 4 0 = x) (hk : k = 20 ∨ k = 21 ∨ k = 22 ∨ k = 23)
    (h : (L2.uDo 1).rel.post [cap, 0, k, 0, 4, c3, c4] [B, kT, M] [e, v, w0, w1, w2, w3] [B', N]) :
    e = 0 ∧ w3 = 3 ∧ B' = kB1 ∧ N.length = 16 ∧ v = (if k = 21 then 0 else x) ∧ N.getD 4 0 = (if k = 21 then c3 else if k = 22 then (if x = c3 then c4 else x) else if k = 23 then IntKind.wrap .u64 (x + c3) else x) := by
  obtain ⟨h1, h2, h3, h4, h5, h6, h7, h8⟩ := udo1_post h
  obtain ⟨q1, q2, q3, q4⟩ := k_walk hB (k := k) (by omega) (by omega)
  have hE : doE 0 k 0 4 c3 c4 = 0 := doE_fine (by omega) (by omega) (by omega) (by omega) (by omega) (by omega)
  have F := do_ok (B := B) (T := kT) (Ls := [M]) (K := 1) hE q1
  have t := k_touch (c3 := c3) (c4 := c4) hl hx hk
  rw [F.1] at h1
  rw [F.2.1, q2] at h2
  rw [F.2.2.1, q3] at h6
  rw [F.2.2.2.1, q4] at h7
  rw [F.2.2.2.2, q2] at h8
  exact ⟨h1, h6, h7, by rw [h8]; exact t.2.1, by rw [h2]; exact t.1, by rw [h8]; exact t.2.2⟩
end Go.Sx
