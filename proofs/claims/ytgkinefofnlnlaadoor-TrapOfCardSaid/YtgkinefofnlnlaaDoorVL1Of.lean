/- The statement messuagelaw1.TrapOf of the seat: for every input the law returns true; the condition: errors.errorType is as the program lays it. -/
import Derived.Test.YtgkinefofnlnlaaDoorVL1Z
set_option linter.unusedVariables false
open Go Go.Sx
namespace Go.Proofs.YtgkinefofnlnlaaDoor
open Go.ChangeShapes Go.WideShapes Go.RowKit
set_option maxRecDepth 100000

theorem trapOf_tree {k : Int} (h : 1 ≤ k) (h' : k ≤ 11) : (lawSpec 5 [.one (.i .i64), .one (.i .i64)]).exe Tryd.prog (L1.cfgK Tryd.prog [(0, k)]) [] 20 200 = .call 11 (L1.begun).rel [] [] 0 0 (.call 12 (L1.code).rel [.v 0] [] 1 0 (.need .eql (.v 2) (.c k) (.call 12 (L1.code).rel [.v 1] [] 1 0 (.letI (.cmp .eql (.c k) (.v 3)) (.ite (.v 4) (.call 12 (L1.code).rel [.v 0] [] 1 0 (.need .eql (.v 5) (.c k) (.call 12 (L1.code).rel [.v 1] [] 1 0 (.letI (.cmp .eql (.c k) (.v 6)) (.letI (.not (.v 7)) (.letI (.cmp .eql (.c 0) (.v 8)) (.ite (.v 9) (.call 12 (L1.code).rel [.v 0] [] 1 0 (.need .eql (.v 10) (.c k) (.call 12 (L1.code).rel [.v 0] [] 1 0 (.need .eql (.v 11) (.c k) (.done [] []))))) (.fail 180)))))))) (.call 12 (L1.code).rel [.v 0] [] 1 0 (.need .eql (.v 5) (.c k) (.call 12 (L1.code).rel [.v 1] [] 1 0 (.letI (.cmp .eql (.c k) (.v 6)) (.letI (.not (.v 7)) (.letI (.cmp .eql (.c 1) (.v 8)) (.ite (.v 9) (.call 12 (L1.code).rel [.v 0] [] 1 0 (.need .eql (.v 10) (.c k) (.call 12 (L1.code).rel [.v 0] [] 1 0 (.need .eql (.v 11) (.c k) (.done [] []))))) (.fail 180))))))))))))) := by
  rcases kcases h h' with rfl | rfl | rfl | rfl | rfl | rfl | rfl | rfl | rfl | rfl | rfl <;> kernel_rfl
set_option maxHeartbeats 4000000 in
theorem trapOf_holds {k : Int} (h : 1 ≤ k) (h' : k ≤ 11) : ((lawSpec 5 [.one (.i .i64), .one (.i .i64)]).withPre fun is => L1.codeOf (is.getD 0 0) = k).Holds Tryd.prog L1.ro := FSpec.holds (cfg := L1.cfgK Tryd.prog [(0, k)]) [] 20 200 (cfgK_ok _) mixed (by
  intro is ls h1 h2 hp hr hl
  rw [exe_withPre, trapOf_tree h h']
  clear hr hl
  obtain ⟨a, b, rfl⟩ := two_list h1
  have hk : L1.codeOf a = k := hp.2
  clear hp h1 h2 h h'
  subst hk
  simp [den_letI, den_ite, den_need, den_done, den_fail, IOp.den, call_begun, call_code, cmpB, b2i, At.den, FSpec.withPre, lawSpec, PSt.add])

theorem trapOf_calls {H : Type} {enc : TypeId × Value → H} {W : World} {base : Nat} {args : Array Value} {ds : List (DataW H)} {p : List MemPlace} (hval : ∀ (j : Nat) t v, Tryd.f5.params[j]? = some t → args[j]? = some v → Value.okWide Tryd.prog W .any base t v)
    (hA : DataW.TrodAll enc Tryd.prog W 0 (fun _ => true) true Tryd.f5.params.toList args.toList ds p) (hL : laidMetH Tryd.prog laid1 W) : Calls Tryd.prog 5 args W fun e W' => e = .returned (.bool true) ∧ Go.Sx.Frame ⟨W, [], L1.ro⟩ W' := by
  rw [Tryd.params5] at hA hval
  obtain ⟨v0, v1, d0, d1, p0, p1, rfl, rfl, rfl, h0, h1⟩ := trodAll_two hA
  obtain ⟨n0, q0⟩ := par_int (base := 0) und3 (hval 0 3 v0 rfl rfl) h0
  obtain ⟨n1, q1⟩ := par_int (base := 0) und3 (hval 1 3 v1 rfl rfl) h1
  exact law_calls (trapOf_holds (codeOf_range n0).1 (codeOf_range n0).2) Tryd.func5 (show Tryd.f5.body = some _ from rfl) (by kernel_rfl) (.cons q0 (.cons q1 .none)) rfl (ro_of_laid hL)
set_option maxHeartbeats 1000000 in
theorem trapOf_lifted (os : Os) (started : os.Started) (H : Type) (enc : TypeId × Value → H) :
    ReturnsInHanded {} Tryd.checked os 5 .any (fun w args => (Rows.trapOfSpec.pre enc Tryd.prog Tryd.f5 [] false w args ∧ laidMetH Tryd.prog laid1 w) ∧ sizedMet enc Tryd.prog Tryd.f5 (OpenSpec.ofChange Rows.trapOfSpec) false w args)
      (Rows.trapOfSpec.post enc Tryd.prog Tryd.f5 false true false false) := by
  refine returnsInHanded_of_change_and (C := Tryd.checked) (X := fun w _ => laidMetH Tryd.prog laid1 w) (fun _ _ _ hh h => h.of_heap hh) Tryd.own started (by kernel_rfl) Tryd.func5
    (ChangeSpec.witness_at (enc := enc) (C := Tryd.checked) (os := os) (X := fun w _ => laidMetH Tryd.prog laid1 w) false (laidWorld os) #[.int .i64 0, .int .i64 0] 8 rfl (by kernel_rfl) (by kernel_rfl) (by kernel_rfl) (by kernel_rfl) (by kernel_rfl) (laidWorld_met os _)) ?_
  intro W base args ds gs before hval0 hW _ _ hL _
  have hval : ∀ (j : Nat) t v, Tryd.f5.params[j]? = some t → args[j]? = some v → Value.okWide Tryd.prog W .any base t v := hval0
  have hW' := hW
  obtain ⟨p, q, hA0, hV0, rfl, hfz, hnd⟩ := hW
  have hcall := trapOf_calls (enc := enc) hval hA0 hL
  refine Calls.mono hcall ?_
  rintro e W' ⟨rfl, hfr⟩
  exact ⟨_, rfl, post_kept Tryd.laidOut (by kernel_rfl) rfl rfl und4 hW' hfr (by
    have hg : gs = [] := by cases gs with | nil => rfl | cons g r => exact absurd hV0 (by intro h; cases h)
    subst hg
    have hA1 : DataW.TrodAll enc Tryd.prog W 0 (fun _ => true) true Tryd.f5.params.toList args.toList ds p := hA0
    rw [Tryd.params5] at hA1
    obtain ⟨v0, v1, d0, d1, p0, p1, ea, rfl, ec, h0, h1⟩ := trodAll_two hA1
    rfl)⟩

theorem trapOf_row : Rows.TrapOfSaid :=
  OpenClaim.holds_of_wide 5 Tryd.f5 rfl rfl rfl rfl rfl rfl rfl ⟨rfl, rfl, rfl, rfl, rfl⟩ rfl rfl rfl rfl rfl (by kernel_rfl) Tryd.func5 (by kernel_rfl)
    (of_decide_eq_true (by kernel_rfl)) (by unfold Func.isWrapper; rw [if_neg (of_decide_eq_false (by kernel_rfl))]; exact ⟨rfl, rfl⟩)
    (fun os started H enc _ => trapOf_lifted os started H enc)
theorem trapOf_card : Rows.TrapOfCardSaid :=
  Claim7.holds_tied_plain_at .later [] [.handle] true (true, "7638421efab938d917ef4a33a3f13491bb579d54ec70411b972aa9fe9f152a7b") true
    trapOf_row (fun _ h => by cases h) (by kernel_rfl) (fun _ h => by cases h) trapOf_row_tie rfl ⟨rfl, rfl⟩ (by kernel_rfl) rfl
    (fun f fn hf hfn => by
      obtain rfl : f = 5 := Option.some.inj ((show Tryd.prog.funcNamed "messuage/messuagelaw1.TrapOf" = some 5 by kernel_rfl).symm.trans hf) |>.symm
      obtain rfl : fn = Tryd.f5 := (Option.some.inj (Tryd.func5.symm.trans hfn)).symm
      exact ⟨by kernel_rfl, fun j t ht => by
        rw [Tryd.params5] at ht
        rcases j with _ | _ | j
        · obtain rfl : 3 = t := by simpa using ht
          exact (show Tryd.prog.wantsStandIn 3 = false by kernel_rfl)
        · obtain rfl : 3 = t := by simpa using ht
          exact (show Tryd.prog.wantsStandIn 3 = false by kernel_rfl)
        · simp at ht⟩)
    (by kernel_rfl)
#print axioms trapOf_card
end Go.Proofs.YtgkinefofnlnlaaDoor
