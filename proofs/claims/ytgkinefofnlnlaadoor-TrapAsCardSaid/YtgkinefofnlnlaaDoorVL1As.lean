/- The statement messuagelaw1.TrapAs of the seat: for every input the law returns true; the condition: errors.errorType is as the program lays it. -/
import Derived.Test.YtgkinefofnlnlaaDoorVL1Z
import Derived.LaidMore
set_option linter.unusedVariables false
open Go Go.Sx
namespace Go.Proofs.YtgkinefofnlnlaaDoor
open Go.ChangeShapes Go.WideShapes Go.RowKit
set_option maxRecDepth 100000

theorem trapAs_tree {k : Int} (h : 1 ≤ k) (h' : k ≤ 11) : (lawSpec 6 [.one (.i .i64), .one (.i .i64), .one (.i .i64), .agg k5]).exe Tryd.prog (L1.cfgK Tryd.prog [(1, k)]) [] 20 200 = .call 11 (L1.begun).rel [] [] 0 0 (.call 12 (L1.code).rel [.v 0] [] 1 0 (.call 12 (L1.code).rel [.v 0] [] 1 0 (.letI (.cmp .neq (.v 8) (.v 9)) (.ite (.v 10) (.fail 180) (.call 12 (L1.code).rel [.v 1] [] 1 0 (.need .eql (.v 11) (.c k) (.letI (.cmp .eql (.v 8) (.c k)) (.ite (.v 12) (.call 12 (L1.code).rel [.v 0] [] 1 0 (.call 12 (L1.code).rel [.v 1] [] 1 0 (.need .eql (.v 14) (.c k) (.letI (.cmp .eql (.v 13) (.c k)) (.letI (.not (.v 15)) (.letI (.cmp .eql (.c 0) (.v 16)) (.ite (.v 17) (.both (.both (.call 12 (L1.code).rel [.v 1] [] 1 0 (.need .eql (.v 18) (.c k) (.call 12 (L1.code).rel [.v 1] [] 1 0 (.need .eql (.v 19) (.c k) (.done [] []))))) (.call 12 (L1.code).rel [.v 1] [] 1 0 (.need .eql (.v 18) (.c k) (.call 12 (L1.code).rel [.v 1] [] 1 0 (.need .eql (.v 19) (.c k) (.done [] [])))))) (.both (.call 12 (L1.code).rel [.v 1] [] 1 0 (.need .eql (.v 18) (.c k) (.call 12 (L1.code).rel [.v 1] [] 1 0 (.need .eql (.v 19) (.c k) (.done [] []))))) (.call 12 (L1.code).rel [.v 1] [] 1 0 (.need .eql (.v 18) (.c k) (.call 12 (L1.code).rel [.v 1] [] 1 0 (.need .eql (.v 19) (.c k) (.done [] []))))))) (.fail 180)))))))) (.call 12 (L1.code).rel [.v 0] [] 1 0 (.call 12 (L1.code).rel [.v 1] [] 1 0 (.need .eql (.v 14) (.c k) (.letI (.cmp .eql (.v 13) (.c k)) (.letI (.not (.v 15)) (.letI (.cmp .eql (.c 1) (.v 16)) (.ite (.v 17) (.both (.both (.call 12 (L1.code).rel [.v 1] [] 1 0 (.need .eql (.v 18) (.c k) (.call 12 (L1.code).rel [.v 1] [] 1 0 (.need .eql (.v 19) (.c k) (.done [] []))))) (.call 12 (L1.code).rel [.v 1] [] 1 0 (.need .eql (.v 18) (.c k) (.call 12 (L1.code).rel [.v 1] [] 1 0 (.need .eql (.v 19) (.c k) (.done [] [])))))) (.both (.call 12 (L1.code).rel [.v 1] [] 1 0 (.need .eql (.v 18) (.c k) (.call 12 (L1.code).rel [.v 1] [] 1 0 (.need .eql (.v 19) (.c k) (.done [] []))))) (.call 12 (L1.code).rel [.v 1] [] 1 0 (.need .eql (.v 18) (.c k) (.call 12 (L1.code).rel [.v 1] [] 1 0 (.need .eql (.v 19) (.c k) (.done [] []))))))) (.fail 180)))))))))))))))) := by
  rcases kcases h h' with rfl | rfl | rfl | rfl | rfl | rfl | rfl | rfl | rfl | rfl | rfl <;> kernel_rfl
set_option maxHeartbeats 4000000 in
theorem trapAs_holds {k : Int} (h : 1 ≤ k) (h' : k ≤ 11) : ((lawSpec 6 [.one (.i .i64), .one (.i .i64), .one (.i .i64), .agg k5]).withPre fun is => L1.codeOf (is.getD 1 0) = k).Holds Tryd.prog L1.ro := FSpec.holds (cfg := L1.cfgK Tryd.prog [(1, k)]) [] 20 200 (cfgK_ok _) mixed (by
  intro is ls h1 h2 hp hr hl
  rw [exe_withPre, trapAs_tree h h']
  clear hr hl
  obtain ⟨a, b, c, d, e, f, g, i, rfl⟩ := eight h1
  have hk : L1.codeOf b = k := hp.2
  clear hp h1 h2 h h'
  subst hk
  simp [den_letI, den_ite, den_need, den_done, den_fail, IOp.den, call_begun, call_code, cmpB, b2i, At.den, FSpec.withPre, lawSpec, PSt.add, den_both])

abbrev laid4 : List (String × DataW Unit) := Rows.trapNoneRow.laid
/-- What the condition gives a walk: the one cell that is read. -/
theorem ro_of_laid4 {W : World} (h : laidMetH Tryd.prog laid4 W) : ∀ p ∈ L1.ro, W.cell? p.1 = some p.2 ∧ p.1.block < W.heap.size := by
  have h' : laidMet Tryd.prog (laid4.filter fun x => x.2.handleName?.isNone) W ∧ handlesMet Tryd.prog laid1 W := h
  refine ro_of_laid (W := W) ?_
  exact ⟨laidMet_nil _ _, h'.2⟩
/-- The door's own heap meets the condition. -/
theorem door_met (os : Os) (args : Array Value) : laidMetH Tryd.prog laid4 ((World.doorLaid Tryd.prog 400 os).forCall (fun _ _ => 0) ⟨#[], args, []⟩).memory :=
  laidMetH_of_parts3 (fuel := 8) (laidMet_of_run' 8 (by kernel_rfl) (by kernel_rfl)) (by kernel_rfl) (by kernel_rfl)

theorem trapAs_calls {H : Type} {enc : TypeId × Value → H} {W : World} {base : Nat} {args : Array Value} {ds : List (DataW H)} {p : List MemPlace} (hval : ∀ (j : Nat) t v, Tryd.f6.params[j]? = some t → args[j]? = some v → Value.okWide Tryd.prog W .any base t v)
    (hA : DataW.TrodAll enc Tryd.prog W 0 (fun _ => true) true Tryd.f6.params.toList args.toList ds p) (hL : laidMetH Tryd.prog laid4 W) : Calls Tryd.prog 6 args W fun e W' => e = .returned (.bool true) ∧ Go.Sx.Frame ⟨W, [], L1.ro⟩ W' := by
  rw [Tryd.params6] at hA hval
  obtain ⟨v0, v1, v2, v3, d0, d1, d2, d3, p0, p1, p2, p3, rfl, rfl, rfl, h0, h1, h2, h3⟩ := trodAll_four hA
  obtain ⟨n0, q0⟩ := par_int (base := 0) und3 (hval 0 3 v0 rfl rfl) h0
  obtain ⟨n1, q1⟩ := par_int (base := 0) und3 (hval 1 3 v1 rfl rfl) h1
  obtain ⟨n2, q2⟩ := par_int (base := 0) und3 (hval 2 3 v2 rfl rfl) h2
  obtain ⟨e3, q3⟩ := par_flat (base := 0) (f := 9) (by rw [und25]) flat25 (hval 3 25 v3 rfl rfl) h3
  exact law_calls (trapAs_holds (codeOf_range n1).1 (codeOf_range n1).2) Tryd.func6 (show Tryd.f6.body = some _ from rfl) (by kernel_rfl) (.cons q0 (.cons q1 (.cons q2 (.cons q3 .none)))) rfl (ro_of_laid4 hL)
set_option maxHeartbeats 1000000 in
theorem trapAs_lifted (os : Os) (started : os.Started) (H : Type) (enc : TypeId × Value → H) :
    ReturnsInHanded {} Tryd.checked os 6 .any (fun w args => (Rows.trapAsSpec.pre enc Tryd.prog Tryd.f6 [] false w args ∧ laidMetH Tryd.prog laid4 w) ∧ sizedMet enc Tryd.prog Tryd.f6 (OpenSpec.ofChange Rows.trapAsSpec) false w args)
      (Rows.trapAsSpec.post enc Tryd.prog Tryd.f6 false true false false) := by
  refine returnsInHanded_of_change_and (C := Tryd.checked) (X := fun w _ => laidMetH Tryd.prog laid4 w) (fun _ _ _ hh h => h.of_heap hh) Tryd.own started (by kernel_rfl) Tryd.func6
    (ChangeSpec.witness_shaped (enc := enc) (C := Tryd.checked) (os := os) (X := fun w _ => laidMetH Tryd.prog laid4 w) false (World.doorLaid Tryd.prog 400 os) #[.int .i64 0, .int .i64 0, .int .i64 0, .agg #[.int .u64 0, .int .u64 0, .int .u64 0, .int .u64 0, .int .u64 0]] 8 rfl (World.shaped_of_RefB (by kernel_rfl) (by kernel_rfl)) (by kernel_rfl) (by kernel_rfl) (by kernel_rfl) (door_met os _)) ?_
  intro W base args ds gs before hval0 hW _ _ hL _
  have hval : ∀ (j : Nat) t v, Tryd.f6.params[j]? = some t → args[j]? = some v → Value.okWide Tryd.prog W .any base t v := hval0
  have hW' := hW
  obtain ⟨p, q, hA0, hV0, rfl, hfz, hnd⟩ := hW
  have hcall := trapAs_calls (enc := enc) hval hA0 hL
  refine Calls.mono hcall ?_
  rintro e W' ⟨rfl, hfr⟩
  exact ⟨_, rfl, post_kept Tryd.laidOut (by kernel_rfl) rfl rfl und4 hW' hfr (by
    have hg : gs = [] := by cases gs with | nil => rfl | cons g r => exact absurd hV0 (by intro h; cases h)
    subst hg
    have hA1 : DataW.TrodAll enc Tryd.prog W 0 (fun _ => true) true Tryd.f6.params.toList args.toList ds p := hA0
    rw [Tryd.params6] at hA1
    obtain ⟨v0, v1, v2, v3, d0, d1, d2, d3, p0, p1, p2, p3, ea, rfl, ec, h0, h1, h2, h3⟩ := trodAll_four hA1
    rfl)⟩

theorem trapAs_row : Rows.TrapAsSaid :=
  OpenClaim.holds_of_wide 6 Tryd.f6 rfl rfl rfl rfl rfl rfl rfl ⟨rfl, rfl, rfl, rfl, rfl⟩ rfl rfl rfl rfl rfl (by kernel_rfl) Tryd.func6 (by kernel_rfl)
    (of_decide_eq_true (by kernel_rfl)) (by unfold Func.isWrapper; rw [if_neg (of_decide_eq_false (by kernel_rfl))]; exact ⟨rfl, rfl⟩)
    (fun os started H enc _ => trapAs_lifted os started H enc)
theorem trapAs_card : Rows.TrapAsCardSaid :=
  Claim7.holds_tied_plain_at .later [] [.data, .data, .data, .handle] true (true, "7638421efab938d917ef4a33a3f13491bb579d54ec70411b972aa9fe9f152a7b") true
    trapAs_row (fun _ h => by cases h) (by kernel_rfl) (fun _ h => by cases h) trapAs_row_tie rfl ⟨rfl, rfl⟩ (by kernel_rfl) rfl
    (fun f fn hf hfn => by
      obtain rfl : f = 6 := Option.some.inj ((show Tryd.prog.funcNamed "messuage/messuagelaw1.TrapAs" = some 6 by kernel_rfl).symm.trans hf) |>.symm
      obtain rfl : fn = Tryd.f6 := (Option.some.inj (Tryd.func6.symm.trans hfn)).symm
      exact ⟨by kernel_rfl, fun j t ht => by
        rw [Tryd.params6] at ht
        rcases j with _ | _ | _ | _ | j
        · obtain rfl : 3 = t := by simpa using ht
          exact (show Tryd.prog.wantsStandIn 3 = false by kernel_rfl)
        · obtain rfl : 3 = t := by simpa using ht
          exact (show Tryd.prog.wantsStandIn 3 = false by kernel_rfl)
        · obtain rfl : 3 = t := by simpa using ht
          exact (show Tryd.prog.wantsStandIn 3 = false by kernel_rfl)
        · obtain rfl : 25 = t := by simpa using ht
          exact (show Tryd.prog.wantsStandIn 25 = false by kernel_rfl)
        · simp at ht⟩)
    (by kernel_rfl)
#print axioms trapAs_card
end Go.Proofs.YtgkinefofnlnlaaDoor
