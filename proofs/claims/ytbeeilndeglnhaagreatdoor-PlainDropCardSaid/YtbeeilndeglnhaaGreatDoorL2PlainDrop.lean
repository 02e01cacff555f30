/- The statement messuagelaw11.PlainDrop of the seat: for every input the law returns true; the condition: errors.errorType is as the program lays it. -/
import Derived.Test.YtbeeilndeglnhaaGreatDoorL2B
import Derived.Test.YtbeeilndeglnhaaGreatDoorSxM7
import Derived.Test.YtbeeilndeglnhaaGreatDoorL2Zn
import Derived.Test.YtbeeilndeglnhaaGreatDoorL2Zd0
import Derived.Test.YtbeeilndeglnhaaGreatDoorL2Zd1
import Derived.Test.YtbeeilndeglnhaaGreatDoorL2Zd2
set_option linter.unusedVariables false
set_option linter.unusedSimpArgs false
open Go Go.Sx
namespace Go.Proofs.YtbeeilndeglnhaaGreatDoor
open Go.ChangeShapes Go.WideShapes Go.RowKit
set_option maxRecDepth 100000

noncomputable def PlainDrop_t : Tree := .call 11 (Go.Sx.L2.yes Go.Sx.L2.f_messuagelaw11_begun).rel [] [] 0 0 (.call 38 (Go.Sx.L2.pNew1).rel [] [] 2 0 (.call 14 (Go.Sx.L2.zA0).rel [.v 1, .v 2] [] 0 0 (.call 14 (Go.Sx.L2.zA0).rel [.v 1, .v 2] [] 0 0 (.call 14 (Go.Sx.L2.zA0).rel [.v 1, .v 2] [] 0 0 (.call 14 (Go.Sx.L2.zA0).rel [.v 1, .v 2] [] 0 0 (.call 14 (Go.Sx.L2.zA0).rel [.v 1, .v 2] [] 0 0 (.call 14 (Go.Sx.L2.zA0).rel [.v 1, .v 2] [] 0 0 (.call 14 (Go.Sx.L2.zA0).rel [.v 1, .v 2] [] 0 0 (.call 14 (Go.Sx.L2.zA0).rel [.v 1, .v 2] [] 0 0 (.letI (.rem (.v 0) (.c 4)) (.letI (.add (.v 3) (.c 4)) (.letI (.rem (.v 4) (.c 4)) (.letI (.cmp .eql (.v 5) (.c 0)) (.ite (.v 6) (.both (.call 14 (Go.Sx.L2.zA0).rel [.v 1, .v 2] [] 0 0 (.any (.c 1) (.c 9223372036854775807) (.done [] []))) (.call 14 (Go.Sx.L2.zA0).rel [.v 1, .v 2] [] 0 0 (.any (.c 1) (.c 9223372036854775807) (.done [] [])))) (.letI (.cmp .eql (.v 5) (.c 1)) (.ite (.v 7) (.both (.call 14 (Go.Sx.L2.zA0).rel [.v 1, .v 2] [] 0 0 (.done [] [])) (.call 14 (Go.Sx.L2.zA0).rel [.v 1, .v 2] [] 0 0 (.done [] []))) (.letI (.cmp .eql (.v 5) (.c 2)) (.ite (.v 8) (.both (.call 14 (Go.Sx.L2.zA0).rel [.v 1, .v 2] [] 0 0 (.done [] [])) (.call 14 (Go.Sx.L2.zA0).rel [.v 1, .v 2] [] 0 0 (.done [] []))) (.both (.call 14 (Go.Sx.L2.zA0).rel [.v 1, .v 2] [] 0 0 (.done [] [])) (.call 14 (Go.Sx.L2.zA0).rel [.v 1, .v 2] [] 0 0 (.done [] [])))))))))))))))))))))
theorem PlainDrop_tree : (lawSpec L2.f_messuagelaw11_PlainDrop [.one (.i .i64)]).exe Tryz.prog (withC (withA (withS (L2.cfgB Tryz.prog) [L2.pNew1]) L2.f_plain_Kernel_Do [L2.zA0, L2.zD0, L2.zD1, L2.zD2, L2.zD3, L2.zD4, L2.zD5, L2.zD6, L2.zE0, L2.zE1, L2.zE2, L2.zE3])) [] 20 200 = PlainDrop_t := by kernel_rfl
theorem PlainDrop_vc (Q : List Int → List (List Int) → Prop) (v0 : Int) : PlainDrop_t.dn ⟨Q, []⟩ 1 [v0] 0 [] = ((Go.Sx.L2.yes Go.Sx.L2.f_messuagelaw11_begun).rel.pre [] [] ∧
((Go.Sx.L2.yes Go.Sx.L2.f_messuagelaw11_begun).rel.post [] [] [] [] → (Go.Sx.L2.pNew1).rel.pre [] [] ∧
(∀ v1 : Int, ∀ v2 : Int, (Go.Sx.L2.pNew1).rel.post [] [] [v1, v2] [] → (Go.Sx.L2.zA0).rel.pre [v1, v2] [] ∧
((Go.Sx.L2.zA0).rel.post [v1, v2] [] [] [] → (Go.Sx.L2.zA0).rel.pre [v1, v2] [] ∧
((Go.Sx.L2.zA0).rel.post [v1, v2] [] [] [] → (Go.Sx.L2.zA0).rel.pre [v1, v2] [] ∧
((Go.Sx.L2.zA0).rel.post [v1, v2] [] [] [] → (Go.Sx.L2.zA0).rel.pre [v1, v2] [] ∧
((Go.Sx.L2.zA0).rel.post [v1, v2] [] [] [] → (Go.Sx.L2.zA0).rel.pre [v1, v2] [] ∧
((Go.Sx.L2.zA0).rel.post [v1, v2] [] [] [] → (Go.Sx.L2.zA0).rel.pre [v1, v2] [] ∧
((Go.Sx.L2.zA0).rel.post [v1, v2] [] [] [] → (Go.Sx.L2.zA0).rel.pre [v1, v2] [] ∧
((Go.Sx.L2.zA0).rel.post [v1, v2] [] [] [] → (Go.Sx.L2.zA0).rel.pre [v1, v2] [] ∧
((Go.Sx.L2.zA0).rel.post [v1, v2] [] [] [] → ∀ v3 : Int, v3 = (v0).tmod (4 : Int) → ∀ v4 : Int, v4 = v3 + (4 : Int) → ∀ v5 : Int, v5 = (v4).tmod (4 : Int) → ((v5 = (0 : Int)) → ((Go.Sx.L2.zA0).rel.pre [v1, v2] [] ∧
((Go.Sx.L2.zA0).rel.post [v1, v2] [] [] [] → ∀ v7 : Int, (1 : Int) ≤ v7 → v7 ≤ (9223372036854775807 : Int) → Q [] [])) ∧
((Go.Sx.L2.zA0).rel.pre [v1, v2] [] ∧
((Go.Sx.L2.zA0).rel.post [v1, v2] [] [] [] → ∀ v7 : Int, (1 : Int) ≤ v7 → v7 ≤ (9223372036854775807 : Int) → Q [] []))) ∧
((v5 ≠ (0 : Int)) → ((v5 = (1 : Int)) → ((Go.Sx.L2.zA0).rel.pre [v1, v2] [] ∧
((Go.Sx.L2.zA0).rel.post [v1, v2] [] [] [] → Q [] [])) ∧
((Go.Sx.L2.zA0).rel.pre [v1, v2] [] ∧
((Go.Sx.L2.zA0).rel.post [v1, v2] [] [] [] → Q [] []))) ∧
((v5 ≠ (1 : Int)) → ((v5 = (2 : Int)) → ((Go.Sx.L2.zA0).rel.pre [v1, v2] [] ∧
((Go.Sx.L2.zA0).rel.post [v1, v2] [] [] [] → Q [] [])) ∧
((Go.Sx.L2.zA0).rel.pre [v1, v2] [] ∧
((Go.Sx.L2.zA0).rel.post [v1, v2] [] [] [] → Q [] []))) ∧
((v5 ≠ (2 : Int)) → ((Go.Sx.L2.zA0).rel.pre [v1, v2] [] ∧
((Go.Sx.L2.zA0).rel.post [v1, v2] [] [] [] → Q [] [])) ∧
((Go.Sx.L2.zA0).rel.pre [v1, v2] [] ∧
((Go.Sx.L2.zA0).rel.post [v1, v2] [] [] [] → Q [] [])))))))))))))))) := by kernel_rfl
set_option maxHeartbeats 4000000 in
theorem plainDrop_holds0 : (lawSpec L2.f_messuagelaw11_PlainDrop [.one (.i .i64)]).Holds Tryz.prog L2.ro := FSpec.holdsV (cfg := withC (withA (withS (L2.cfgB Tryz.prog) [L2.pNew1]) L2.f_plain_Kernel_Do [L2.zA0, L2.zD0, L2.zD1, L2.zD2, L2.zD3, L2.zD4, L2.zD5, L2.zD6, L2.zE0, L2.zE1, L2.zE2, L2.zE3])) [] 20 200 (withC_ok (withA_ok (withS_ok cfgB_ok ⟨pNew1_holds, trivial⟩) (fun s hs => by
  simp only [List.mem_cons, List.not_mem_nil, or_false] at hs
  rcases hs with rfl | rfl | rfl | rfl | rfl | rfl | rfl | rfl | rfl | rfl | rfl | rfl <;> rfl) ⟨zA0_holds, zD0_holds, zD1_holds, zD2_holds, zD3_holds, zD4_holds, zD5_holds, zD6_holds, zE0_holds, zE1_holds, zE2_holds, zE3_holds, trivial⟩)) mixed (t := PlainDrop_t) PlainDrop_tree (by
  show ∀ (v0 : Int) , _
  intro v0  hp hr hl
  replace hr : ((-9223372036854775808 : Int) ≤ v0 ∧ v0 ≤ (9223372036854775807 : Int)) ∧ True := hr
  replace hp : True := hp
  show PlainDrop_t.dn ⟨_, []⟩ 1 [v0] 0 []
  rw [PlainDrop_vc]
  show ((L2.yes L2.f_messuagelaw11_begun).rel.pre [] [] ∧ _)
  refine ⟨trivial, fun _ => ?_⟩
  repeat' first | refine And.intro ?_ ?_ | intro _
  all_goals trivial)
theorem plainDrop_holds : ((lawSpec L2.f_messuagelaw11_PlainDrop [.one (.i .i64)]).withPre fun _ => True).Holds Tryz.prog L2.ro := holds_withPre _ plainDrop_holds0

theorem plainDrop_calls {H : Type} {enc : TypeId × Value → H} {W : World} {base : Nat} {args : Array Value} {ds : List (DataW H)} {p : List MemPlace} (hval : ∀ (j : Nat) t v, Tryz.f9.params[j]? = some t → args[j]? = some v → Value.okWide Tryz.prog W .any base t v)
    (hA : DataW.TrodAll enc Tryz.prog W 0 (fun _ => true) true Tryz.f9.params.toList args.toList ds p) (hL : laidMetH Tryz.prog laid1 W) : Calls Tryz.prog 9 args W fun e W' => e = .returned (.bool true) ∧ Go.Sx.Frame ⟨W, [], L2.ro⟩ W' := by
  rw [Tryz.params9] at hA hval
  obtain ⟨v0, d0, rfl, rfl, h0⟩ := trodAll_one hA
  obtain ⟨n0, q0⟩ := par_int (base := 0) und3 (hval 0 3 v0 rfl rfl) h0
  exact law_calls (plainDrop_holds) Tryz.func9 (show Tryz.f9.body = some _ from rfl) (by kernel_rfl) (.cons q0 .none) trivial (ro_of_laid hL)
set_option maxHeartbeats 1000000 in
theorem plainDrop_lifted (os : Os) (started : os.Started) (H : Type) (enc : TypeId × Value → H) :
    ReturnsInHanded {} Tryz.checked os 9 .any (fun w args => (Rows.plainDropSpec.pre enc Tryz.prog Tryz.f9 [] false w args ∧ laidMetH Tryz.prog laid1 w) ∧ sizedMet enc Tryz.prog Tryz.f9 (OpenSpec.ofChange Rows.plainDropSpec) false w args)
      (Rows.plainDropSpec.post enc Tryz.prog Tryz.f9 false true false false) := by
  refine returnsInHanded_of_change_and (C := Tryz.checked) (X := fun w _ => laidMetH Tryz.prog laid1 w) (fun _ _ _ hh h => h.of_heap hh) Tryz.own started (by kernel_rfl) Tryz.func9
    (ChangeSpec.witness_at (enc := enc) (C := Tryz.checked) (os := os) (X := fun w _ => laidMetH Tryz.prog laid1 w) false (laidWorld os) #[.int .i64 0] 8 rfl (by kernel_rfl) (by kernel_rfl) (by kernel_rfl) (by kernel_rfl) (by kernel_rfl) (laidWorld_met os _)) ?_
  intro W base args ds gs before hval0 hW _ _ hL _
  have hval : ∀ (j : Nat) t v, Tryz.f9.params[j]? = some t → args[j]? = some v → Value.okWide Tryz.prog W .any base t v := hval0
  have hW' := hW
  obtain ⟨p, q, hA0, hV0, rfl, hfz, hnd⟩ := hW
  have hcall := plainDrop_calls (enc := enc) hval hA0 hL
  refine Calls.mono hcall ?_
  rintro e W' ⟨rfl, hfr⟩
  exact ⟨_, rfl, post_kept Tryz.laidOut (by kernel_rfl) rfl rfl und4 hW' hfr (by
    have hg : gs = [] := by cases gs with | nil => rfl | cons g r => exact absurd hV0 (by intro h; cases h)
    subst hg
    have hA1 : DataW.TrodAll enc Tryz.prog W 0 (fun _ => true) true Tryz.f9.params.toList args.toList ds p := hA0
    rw [Tryz.params9] at hA1
    obtain ⟨v0, d0, ea, rfl, h0⟩ := trodAll_one hA1
    rfl)⟩

theorem plainDrop_row : Rows.PlainDropSaid :=
  OpenClaim.holds_of_wide 9 Tryz.f9 rfl rfl rfl rfl rfl rfl rfl ⟨rfl, rfl, rfl, rfl, rfl⟩ rfl rfl rfl rfl rfl (by kernel_rfl) Tryz.func9 (restFacts.2 _ _ _ _ _ Tryz.mayEnter Tryz.liftsFinal Tryz.make (by kernel_rfl))
    (of_decide_eq_true (by kernel_rfl)) (by unfold Func.isWrapper; rw [if_neg (of_decide_eq_false (by kernel_rfl))]; exact ⟨rfl, rfl⟩)
    (fun os started H enc _ => plainDrop_lifted os started H enc)
theorem plainDrop_card : Rows.PlainDropCardSaid :=
  Claim7.holds_tied_plain_at .later [] [.handle] true (true, "03e61672702d19706c8d68169ee10bb2a69f43bc4acf47496bc14f440cc30522") true
    plainDrop_row (fun _ h => by cases h) (by kernel_rfl) (fun _ h => by cases h) plainDrop_row_tie rfl ⟨rfl, rfl⟩ Tryz.mainIs rfl
    (fun f fn hf hfn => by
      obtain rfl : f = 9 := Option.some.inj ((show Tryz.prog.funcNamed "messuage/messuagelaw11.PlainDrop" = some 9 by kernel_rfl).symm.trans hf) |>.symm
      obtain rfl : fn = Tryz.f9 := (Option.some.inj (Tryz.func9.symm.trans hfn)).symm
      exact ⟨by kernel_rfl, fun j t ht => by
        rw [Tryz.params9] at ht
        rcases j with _ | j
        · obtain rfl : 3 = t := by simpa using ht
          exact (show Tryz.prog.wantsStandIn 3 = false by kernel_rfl)
        · simp at ht⟩)
    (by kernel_rfl)
#print axioms plainDrop_card
end Go.Proofs.YtbeeilndeglnhaaGreatDoor
