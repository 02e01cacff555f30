/- The statement messuagelaw11.PredAll of the seat: for every input the law returns true; the condition: errors.errorType is as the program lays it. -/
import Derived.Test.YtegeplgckfpleaaGreatDoorL2B
import Derived.Test.YtegeplgckfpleaaGreatDoorSxM7
set_option linter.unusedVariables false
set_option linter.unusedSimpArgs false
open Go Go.Sx
namespace Go.Proofs.YtegeplgckfpleaaGreatDoor
open Go.ChangeShapes Go.WideShapes Go.RowKit
set_option maxRecDepth 100000

noncomputable def PredAll_t : Tree := .call 15 (Go.Sx.L2.yes Go.Sx.L2.f_messuagelaw11_begun).rel [] [] 0 0 (.letI (.cmp .leq (.c 1) (.v 0)) (.ite (.v 3) (.letI (.cmp .leq (.v 0) (.c 4)) (.letI (.not (.v 4)) (.letI (.cmp .eql (.v 0) (.c 1)) (.ite (.v 6) (.letI (.cmp .eql (.v 1) (.v 2)) (.letI (.not (.v 7)) (.done [] []))) (.letI (.cmp .eql (.v 0) (.c 2)) (.ite (.v 7) (.letI (.cmp .neq (.v 1) (.v 2)) (.letI (.not (.v 8)) (.done [] []))) (.letI (.cmp .eql (.v 0) (.c 3)) (.ite (.v 8) (.letI (.cmp .lss (.v 1) (.v 2)) (.letI (.not (.v 9)) (.done [] []))) (.letI (.cmp .eql (.v 0) (.c 4)) (.ite (.v 9) (.letI (.cmp .lss (.v 2) (.v 1)) (.letI (.not (.v 10)) (.done [] []))) (.done [] []))))))))))) (.done [] [])))
theorem PredAll_tree : (lawSpec L2.f_messuagelaw11_PredAll [.one (.i .i64), .one (.i .u64), .one (.i .u64)]).exe Tryz.prog (L2.cfgB Tryz.prog) [] 20 200 = PredAll_t := by kernel_rfl
theorem PredAll_vc (Q : List Int → List (List Int) → Prop) (v0 v1 v2 : Int) : PredAll_t.dn ⟨Q, []⟩ 3 [v2, v1, v0] 0 [] = ((Go.Sx.L2.yes Go.Sx.L2.f_messuagelaw11_begun).rel.pre [] [] ∧
((Go.Sx.L2.yes Go.Sx.L2.f_messuagelaw11_begun).rel.post [] [] [] [] → (((1 : Int) ≤ v0) → ∀ v4 : Int, v4 = b2i (decide (v0 ≤ (4 : Int))) → ∀ v5 : Int, v5 = b2i (v4 == 0) → ((v0 = (1 : Int)) → ∀ v7 : Int, v7 = b2i (v1 == v2) → ∀ v8 : Int, v8 = b2i (v7 == 0) → Q [] []) ∧
((v0 ≠ (1 : Int)) → ((v0 = (2 : Int)) → ∀ v8 : Int, v8 = b2i (v1 != v2) → ∀ v9 : Int, v9 = b2i (v8 == 0) → Q [] []) ∧
((v0 ≠ (2 : Int)) → ((v0 = (3 : Int)) → ∀ v9 : Int, v9 = b2i (decide (v1 < v2)) → ∀ v10 : Int, v10 = b2i (v9 == 0) → Q [] []) ∧
((v0 ≠ (3 : Int)) → ((v0 = (4 : Int)) → ∀ v10 : Int, v10 = b2i (decide (v2 < v1)) → ∀ v11 : Int, v11 = b2i (v10 == 0) → Q [] []) ∧
((v0 ≠ (4 : Int)) → Q [] []))))) ∧
((v0 < (1 : Int)) → Q [] []))) := by kernel_rfl
set_option maxHeartbeats 4000000 in
theorem predAll_holds0 : (lawSpec L2.f_messuagelaw11_PredAll [.one (.i .i64), .one (.i .u64), .one (.i .u64)]).Holds Tryz.prog L2.ro := FSpec.holdsV (cfg := L2.cfgB Tryz.prog) [] 20 200 cfgB_ok mixed (t := PredAll_t) PredAll_tree (by
  show ∀ (v0 v1 v2 : Int) , _
  intro v0 v1 v2  hp hr hl
  replace hr : ((-9223372036854775808 : Int) ≤ v0 ∧ v0 ≤ (9223372036854775807 : Int)) ∧ ((0 : Int) ≤ v1 ∧ v1 ≤ (18446744073709551615 : Int)) ∧ ((0 : Int) ≤ v2 ∧ v2 ≤ (18446744073709551615 : Int)) ∧ True := hr
  replace hp : True := hp
  show PredAll_t.dn ⟨_, []⟩ 3 [v2, v1, v0] 0 []
  rw [PredAll_vc]
  show ((L2.yes L2.f_messuagelaw11_begun).rel.pre [] [] ∧ _)
  refine ⟨trivial, fun _ => ?_⟩
  repeat' first | refine And.intro ?_ ?_ | intro _
  all_goals trivial)
theorem predAll_holds : ((lawSpec L2.f_messuagelaw11_PredAll [.one (.i .i64), .one (.i .u64), .one (.i .u64)]).withPre fun _ => True).Holds Tryz.prog L2.ro := holds_withPre _ predAll_holds0

theorem predAll_calls {H : Type} {enc : TypeId × Value → H} {W : World} {base : Nat} {args : Array Value} {ds : List (DataW H)} {p : List MemPlace} (hval : ∀ (j : Nat) t v, Tryz.f13.params[j]? = some t → args[j]? = some v → Value.okWide Tryz.prog W .any base t v)
    (hA : DataW.TrodAll enc Tryz.prog W 0 (fun _ => true) true Tryz.f13.params.toList args.toList ds p) (hL : laidMetH Tryz.prog laid1 W) : Calls Tryz.prog 13 args W fun e W' => e = .returned (.bool true) ∧ Go.Sx.Frame ⟨W, [], L2.ro⟩ W' := by
  rw [Tryz.params13] at hA hval
  obtain ⟨v0, v1, v2, d0, d1, d2, p0, p1, p2, rfl, rfl, rfl, h0, h1, h2⟩ := trodAll_three hA
  obtain ⟨n0, q0⟩ := par_int (base := 0) und3 (hval 0 3 v0 rfl rfl) h0
  obtain ⟨n1, q1⟩ := par_int (base := 0) und56 (hval 1 56 v1 rfl rfl) h1
  obtain ⟨n2, q2⟩ := par_int (base := 0) und56 (hval 2 56 v2 rfl rfl) h2
  exact law_calls (predAll_holds) Tryz.func13 (show Tryz.f13.body = some _ from rfl) (by kernel_rfl) (.cons q0 (.cons q1 (.cons q2 .none))) trivial (ro_of_laid hL)
set_option maxHeartbeats 1000000 in
theorem predAll_lifted (os : Os) (started : os.Started) (H : Type) (enc : TypeId × Value → H) :
    ReturnsInHanded {} Tryz.checked os 13 .any (fun w args => (Rows.predAllSpec.pre enc Tryz.prog Tryz.f13 [] false w args ∧ laidMetH Tryz.prog laid1 w) ∧ sizedMet enc Tryz.prog Tryz.f13 (OpenSpec.ofChange Rows.predAllSpec) false w args)
      (Rows.predAllSpec.post enc Tryz.prog Tryz.f13 false true false false) := by
  refine returnsInHanded_of_change_and (C := Tryz.checked) (X := fun w _ => laidMetH Tryz.prog laid1 w) (fun _ _ _ hh h => h.of_heap hh) Tryz.own started (by kernel_rfl) Tryz.func13
    (ChangeSpec.witness_at (enc := enc) (C := Tryz.checked) (os := os) (X := fun w _ => laidMetH Tryz.prog laid1 w) false (laidWorld os) #[.int .i64 0, .int .u64 0, .int .u64 0] 8 rfl (by kernel_rfl) (by kernel_rfl) (by kernel_rfl) (by kernel_rfl) (by kernel_rfl) (laidWorld_met os _)) ?_
  intro W base args ds gs before hval0 hW _ _ hL _
  have hval : ∀ (j : Nat) t v, Tryz.f13.params[j]? = some t → args[j]? = some v → Value.okWide Tryz.prog W .any base t v := hval0
  have hW' := hW
  obtain ⟨p, q, hA0, hV0, rfl, hfz, hnd⟩ := hW
  have hcall := predAll_calls (enc := enc) hval hA0 hL
  refine Calls.mono hcall ?_
  rintro e W' ⟨rfl, hfr⟩
  exact ⟨_, rfl, post_kept Tryz.laidOut (by kernel_rfl) rfl rfl und4 hW' hfr (by
    have hg : gs = [] := by cases gs with | nil => rfl | cons g r => exact absurd hV0 (by intro h; cases h)
    subst hg
    have hA1 : DataW.TrodAll enc Tryz.prog W 0 (fun _ => true) true Tryz.f13.params.toList args.toList ds p := hA0
    rw [Tryz.params13] at hA1
    obtain ⟨v0, v1, v2, d0, d1, d2, p0, p1, p2, ea, rfl, ec, h0, h1, h2⟩ := trodAll_three hA1
    rfl)⟩

theorem predAll_row : Rows.PredAllSaid :=
  OpenClaim.holds_of_wide 13 Tryz.f13 rfl rfl rfl rfl rfl rfl rfl ⟨rfl, rfl, rfl, rfl, rfl⟩ rfl rfl rfl rfl rfl (by kernel_rfl) Tryz.func13 (restFacts.2 _ _ _ _ _ Tryz.mayEnter Tryz.liftsFinal Tryz.make (by kernel_rfl))
    (of_decide_eq_true (by kernel_rfl)) (by unfold Func.isWrapper; rw [if_neg (of_decide_eq_false (by kernel_rfl))]; exact ⟨rfl, rfl⟩)
    (fun os started H enc _ => predAll_lifted os started H enc)
theorem predAll_card : Rows.PredAllCardSaid :=
  Claim7.holds_tied_plain_at .later [] [.handle] true (true, "2b6aa8c52f26a36866b589049fd1d65802bdae42632cc16d24d227b9428605b6") true
    predAll_row (fun _ h => by cases h) (by kernel_rfl) (fun _ h => by cases h) predAll_row_tie rfl ⟨rfl, rfl⟩ Tryz.mainIs rfl
    (fun f fn hf hfn => by
      obtain rfl : f = 13 := Option.some.inj ((show Tryz.prog.funcNamed "messuage/messuagelaw11.PredAll" = some 13 by kernel_rfl).symm.trans hf) |>.symm
      obtain rfl : fn = Tryz.f13 := (Option.some.inj (Tryz.func13.symm.trans hfn)).symm
      exact ⟨by kernel_rfl, fun j t ht => by
        rw [Tryz.params13] at ht
        rcases j with _ | _ | _ | j
        · obtain rfl : 3 = t := by simpa using ht
          exact (show Tryz.prog.wantsStandIn 3 = false by kernel_rfl)
        · obtain rfl : 56 = t := by simpa using ht
          exact (show Tryz.prog.wantsStandIn 56 = false by kernel_rfl)
        · obtain rfl : 56 = t := by simpa using ht
          exact (show Tryz.prog.wantsStandIn 56 = false by kernel_rfl)
        · simp at ht⟩)
    (by kernel_rfl)
#print axioms predAll_card
end Go.Proofs.YtegeplgckfpleaaGreatDoor
