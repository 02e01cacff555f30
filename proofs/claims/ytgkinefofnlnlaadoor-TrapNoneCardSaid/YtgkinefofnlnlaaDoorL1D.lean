/- The contracts of messuagelaw1's laws. (The trees are printed by a program of mine: they are what the executor comes to.) -/
import Derived.Test.YtgkinefofnlnlaaDoorL1B
set_option linter.unusedVariables false
open Go Go.Sx
namespace Go.Proofs.YtgkinefofnlnlaaDoor
set_option maxRecDepth 100000
theorem spec_then {P : Program} {ro : List (Addr × Value)} {s : Sx.Spec} (hs : s.Ok P ro) {f : List SV → SV → M SV}
    (hf : ∀ (Φ : Phi) (C : Ctx) (ρ : Env) (h : H) (w : World) (args : List SV) (sv : SV) (v : Value), SvIs ρ sv v → MSpec Φ C (f args sv) ρ h w fun sv' ρ' h' w' => w' = w ∧ SvIs ρ' sv' v) :
    (⟨s.f, fun args => s.run args >>= f args⟩ : Sx.Spec).Ok P ro := by
  intro Φ C ρ h w args k K hro hok r hd hk
  refine hs Φ C ρ h w args (fun sv h' => f args sv h' k) K hro hok r hd ?_
  intro sv ρ' h' v w' l r' hv d'
  obtain ⟨sv2, ρ2, h2, w2, l2, r2, d2, rfl, hv2⟩ := hf Φ C ρ' h' w' args sv v hv r' k d'
  exact hk sv2 ρ2 h2 v w2 (Env.le_trans l l2) r2 hv2 d2
theorem pin_ok {Φ : Phi} {C : Ctx} {ρ : Env} {h : H} {w : World} {ks : List (Nat × Int)} {args : List SV} {sv : SV} {v : Value} (hv : SvIs ρ sv v) :
    MSpec Φ C (L1.pin ks args sv) ρ h w fun sv' ρ' h' w' => w' = w ∧ SvIs ρ' sv' v := by
  unfold L1.pin
  split
  · rename_i i a
    obtain ⟨ha, rfl⟩ := hv.int
    split
    · rename_i q eq
      refine (need_spec ha (AtIs.c ρ q.2)).bind ?_
      rintro _ ρ1 h1 w1 l1 ⟨rfl, _, c⟩
      have c' : a.den ρ.is = q.2 := by simpa [cmpB] using c
      exact MSpec.ret ⟨rfl, by rw [c']; exact (AtIs.c ρ1 q.2).svi⟩
    · exact MSpec.ret ⟨rfl, hv⟩
  · exact MSpec.ret ⟨rfl, hv⟩
theorem cfgK_ok (ks : List (Nat × Int)) : (L1.cfgK Tryd.prog ks).Ok Tryd.prog := by
  refine ⟨?_, cfg_ok.meths⟩
  intro s hs
  rcases List.mem_append.1 hs with hs | hs
  · simp only [List.mem_cons, List.not_mem_nil, or_false] at hs
    rcases hs with rfl | rfl
    · exact FSpec.spec_ok begun_holds
    · exact spec_then (s := L1.code.spec) (FSpec.spec_ok code_holds) (f := L1.pin ks) fun Φ C ρ h w args sv v hv => pin_ok hv
  · exact cfg_ok.specs s hs
theorem one_list {l : List Int} (h : l.length = 1) : ∃ x, l = [x] := by
  match l, h with
  | [x], _ => exact ⟨x, rfl⟩
theorem kcases {k : Int} (h : 1 ≤ k) (h' : k ≤ 11) : k = 1 ∨ k = 2 ∨ k = 3 ∨ k = 4 ∨ k = 5 ∨ k = 6 ∨ k = 7 ∨ k = 8 ∨ k = 9 ∨ k = 10 ∨ k = 11 := by omega
theorem codeOf_range (n : Int) : 1 ≤ L1.codeOf n ∧ L1.codeOf n ≤ 11 := by
  unfold L1.codeOf
  have h1 := Int.tmod_lt_of_pos n (by decide : (0 : Int) < 11)
  have h2 : -11 < n.tmod 11 := by
    have := Int.lt_tmod_of_pos n (by decide : (0 : Int) < 11)
    omega
  rw [Int.tmod_eq_emod_of_nonneg (by omega)]
  omega

theorem none_tree : (L1.lawI 4 0 fun _ => True).exe Tryd.prog (L1.cfgB Tryd.prog) [] 20 200 = .call L1.begun.rel [] [] 0 0 (.both (.done [] []) (.done [] [])) := by kernel_rfl

theorem none_holds : (L1.lawI 4 0 fun _ => True).Holds Tryd.prog L1.ro := FSpec.holds (cfg := L1.cfgB Tryd.prog) [] 20 200 cfgB_ok mixed (by
  intro is ls h1 h2 hp hr hl
  rw [none_tree]
  simp [Tree.den, L1.begun, L1.lawI])

theorem five {l : List Int} (h : l.length = 5) : ∃ a b c d e, l = [a, b, c, d, e] := by
  match l, h with
  | [a, b, c, d, e], _ => exact ⟨a, b, c, d, e, rfl⟩
theorem eight {l : List Int} (h : l.length = 8) : ∃ a b c d e f g i, l = [a, b, c, d, e, f, g, i] := by
  match l, h with
  | [a, b, c, d, e, f, g, i], _ => exact ⟨a, b, c, d, e, f, g, i, rfl⟩
theorem seven {l : List Int} (h : l.length = 7) : ∃ a b c d e f g, l = [a, b, c, d, e, f, g] := by
  match l, h with
  | [a, b, c, d, e, f, g], _ => exact ⟨a, b, c, d, e, f, g, rfl⟩
theorem all_one {v : Int} {Q : List Int → Prop} : (∀ xs : List Int, xs.length = 1 → xs = [v] → Q xs) ↔ Q [v] :=
  ⟨fun h => h [v] rfl rfl, fun h xs _ e => by subst e; exact h⟩

theorem join_tree : (L1.lawC 9 3).exe Tryd.prog (L1.cfgB Tryd.prog) [] 20 200 = .call L1.begun.rel [] [] 0 0 (.call L1.code.rel [.v 0] [] 1 0 (.call L1.code.rel [.v 1] [] 1 0 (.call L1.code.rel [.v 0] [] 1 0 (.letI (.cmp .eql (.v 8) (.v 10)) (.ite (.v 11) (.call L1.code.rel [.v 0] [] 1 0 (.letI (.cmp .eql (.v 8) (.v 12)) (.ite (.v 13) (.call L1.code.rel [.v 1] [] 1 0 (.letI (.cmp .eql (.v 8) (.v 14)) (.ite (.v 15) (.done [] []) (.letI (.cmp .eql (.v 9) (.v 14)) (.ite (.v 16) (.done [] []) (.fail 180)))))) (.letI (.cmp .eql (.v 9) (.v 12)) (.ite (.v 14) (.call L1.code.rel [.v 1] [] 1 0 (.letI (.cmp .eql (.v 8) (.v 15)) (.ite (.v 16) (.done [] []) (.letI (.cmp .eql (.v 9) (.v 15)) (.ite (.v 17) (.done [] []) (.fail 180)))))) (.fail 180)))))) (.fail 180)))))) := by kernel_rfl

set_option maxHeartbeats 1000000 in
theorem join_holds : (L1.lawC 9 3).Holds Tryd.prog L1.ro := FSpec.holds (cfg := L1.cfgB Tryd.prog) [] 20 200 cfgB_ok mixed (by
  intro is ls h1 h2 hp hr hl
  rw [join_tree]
  clear hr hl hp
  obtain ⟨a, b, c, d, e, f, g, i, rfl⟩ := eight h1
  simp [Tree.den, IOp.den, L1.begun, L1.code, L1.lawC, cmpB, b2i, all_one])

theorem other_tree : (L1.lawC 10 2).exe Tryd.prog (L1.cfgB Tryd.prog) [] 20 200 = .call L1.begun.rel [] [] 0 0 (.call L1.code.rel [.v 0] [] 1 0 (.both (.call L1.code.rel [.v 0] [] 1 0 (.letI (.cmp .eql (.v 7) (.v 8)) (.ite (.v 9) (.call L1.code.rel [.v 0] [] 1 0 (.letI (.cmp .eql (.v 7) (.v 10)) (.ite (.v 11) (.done [] []) (.fail 180)))) (.fail 180)))) (.call L1.code.rel [.v 0] [] 1 0 (.letI (.cmp .eql (.v 7) (.v 8)) (.ite (.v 9) (.call L1.code.rel [.v 0] [] 1 0 (.letI (.cmp .eql (.v 7) (.v 10)) (.ite (.v 11) (.done [] []) (.fail 180)))) (.fail 180)))))) := by kernel_rfl

set_option maxHeartbeats 1000000 in
theorem other_holds : (L1.lawC 10 2).Holds Tryd.prog L1.ro := FSpec.holds (cfg := L1.cfgB Tryd.prog) [] 20 200 cfgB_ok mixed (by
  intro is ls h1 h2 hp hr hl
  rw [other_tree]
  clear hr hl hp
  obtain ⟨a, b, c, d, e, f, g, rfl⟩ := seven h1
  simp [Tree.den, IOp.den, L1.begun, L1.code, L1.lawC, cmpB, b2i, all_one])

end Go.Proofs.YtgkinefofnlnlaaDoor
