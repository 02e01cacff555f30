/- The statement messuagelaw2.PoolSeven of the seat: for every input the law returns true; the condition: errors.errorType is as the program lays it. -/
import Derived.Test.YthjfkblnbecjgaaGreatDoorL2B
set_option linter.unusedVariables false
open Go Go.Sx
namespace Go.Proofs.YthjfkblnbecjgaaGreatDoor
open Go.ChangeShapes Go.WideShapes Go.RowKit
set_option maxRecDepth 100000

theorem poolSeven_tree : (lawSpec 18 [.one (.i .i64)]).exe Tryz.prog (L2.cfg2 Tryz.prog) [] 20 200 = .call 25 (L2.yes L2.f_messuagelaw2_begun).rel [] [] 0 0 (.letI (.rem (.v 0) (.c 12)) (.letI (.add (.v 1) (.c 12)) (.letI (.rem (.v 2) (.c 12)) (.letI (.cmp .lss (.c 0) (.v 3)) (.ite (.v 4) (.letI (.cmp .lss (.c 1) (.v 3)) (.ite (.v 5) (.letI (.cmp .lss (.c 2) (.v 3)) (.ite (.v 6) (.letI (.cmp .lss (.c 3) (.v 3)) (.ite (.v 7) (.letI (.cmp .lss (.c 4) (.v 3)) (.ite (.v 8) (.letI (.cmp .lss (.c 5) (.v 3)) (.ite (.v 9) (.letI (.cmp .lss (.c 6) (.v 3)) (.ite (.v 10) (.letI (.cmp .lss (.c 7) (.v 3)) (.ite (.v 11) (.letI (.cmp .lss (.c 8) (.v 3)) (.ite (.v 12) (.letI (.cmp .lss (.c 9) (.v 3)) (.ite (.v 13) (.letI (.cmp .lss (.c 10) (.v 3)) (.ite (.v 14) (.any (.c 1) (.c 9223372036854775807) (.any (.c 2) (.c 9223372036854775807) (.any (.c 3) (.c 9223372036854775807) (.done [] [])))) (.any (.c 1) (.c 9223372036854775807) (.any (.c 2) (.c 9223372036854775807) (.any (.c 3) (.c 9223372036854775807) (.done [] [])))))) (.any (.c 1) (.c 9223372036854775807) (.any (.c 2) (.c 9223372036854775807) (.any (.c 3) (.c 9223372036854775807) (.done [] [])))))) (.any (.c 1) (.c 9223372036854775807) (.any (.c 2) (.c 9223372036854775807) (.any (.c 3) (.c 9223372036854775807) (.done [] [])))))) (.any (.c 1) (.c 9223372036854775807) (.any (.c 2) (.c 9223372036854775807) (.any (.c 3) (.c 9223372036854775807) (.done [] [])))))) (.any (.c 1) (.c 9223372036854775807) (.any (.c 2) (.c 9223372036854775807) (.any (.c 3) (.c 9223372036854775807) (.done [] [])))))) (.any (.c 1) (.c 9223372036854775807) (.any (.c 2) (.c 9223372036854775807) (.any (.c 3) (.c 9223372036854775807) (.done [] [])))))) (.any (.c 1) (.c 9223372036854775807) (.any (.c 2) (.c 9223372036854775807) (.any (.c 3) (.c 9223372036854775807) (.done [] [])))))) (.any (.c 1) (.c 9223372036854775807) (.any (.c 2) (.c 9223372036854775807) (.any (.c 3) (.c 9223372036854775807) (.done [] [])))))) (.any (.c 1) (.c 9223372036854775807) (.any (.c 2) (.c 9223372036854775807) (.any (.c 3) (.c 9223372036854775807) (.done [] [])))))) (.any (.c 1) (.c 9223372036854775807) (.any (.c 2) (.c 9223372036854775807) (.any (.c 3) (.c 9223372036854775807) (.done [] [])))))) (.any (.c 1) (.c 9223372036854775807) (.any (.c 2) (.c 9223372036854775807) (.any (.c 3) (.c 9223372036854775807) (.done [] []))))))))) := by kernel_rfl
set_option maxHeartbeats 4000000 in
theorem poolSeven_holds : ((lawSpec 18 [.one (.i .i64)]).withPre fun _ => True).Holds Tryz.prog L2.ro := FSpec.holds (cfg := L2.cfg2 Tryz.prog) [] 20 200 cfg2_ok mixed (by
  intro is ls h1 h2 hp hr hl
  rw [exe_withPre, poolSeven_tree]
  obtain ⟨a, rfl⟩ := list1 h1
  simp [den_any, den_letI, den_ite, den_done, call_none, L2.yes, FSpec.withPre, lawSpec, PSt.add])

theorem poolSeven_calls {H : Type} {enc : TypeId × Value → H} {W : World} {base : Nat} {args : Array Value} {ds : List (DataW H)} {p : List MemPlace} (hval : ∀ (j : Nat) t v, Tryz.f18.params[j]? = some t → args[j]? = some v → Value.okWide Tryz.prog W .any base t v)
    (hA : DataW.TrodAll enc Tryz.prog W 0 (fun _ => true) true Tryz.f18.params.toList args.toList ds p) (hL : laidMetH Tryz.prog laid1 W) : Calls Tryz.prog 18 args W fun e W' => e = .returned (.bool true) ∧ Go.Sx.Frame ⟨W, [], L2.ro⟩ W' := by
  rw [Tryz.params18] at hA hval
  obtain ⟨v0, d0, rfl, rfl, h0⟩ := trodAll_one hA
  obtain ⟨n0, q0⟩ := par_int (base := 0) und3 (hval 0 3 v0 rfl rfl) h0
  exact law_calls (poolSeven_holds) Tryz.func18 (show Tryz.f18.body = some _ from rfl) (by kernel_rfl) (.cons q0 .none) trivial (ro_of_laid hL)
set_option maxHeartbeats 1000000 in
theorem poolSeven_lifted (os : Os) (started : os.Started) (H : Type) (enc : TypeId × Value → H) :
    ReturnsInHanded {} Tryz.checked os 18 .any (fun w args => (Rows.poolSevenSpec.pre enc Tryz.prog Tryz.f18 [] false w args ∧ laidMetH Tryz.prog laid1 w) ∧ sizedMet enc Tryz.prog Tryz.f18 (OpenSpec.ofChange Rows.poolSevenSpec) false w args)
      (Rows.poolSevenSpec.post enc Tryz.prog Tryz.f18 false true false false) := by
  refine returnsInHanded_of_change_and (C := Tryz.checked) (X := fun w _ => laidMetH Tryz.prog laid1 w) (fun _ _ _ hh h => h.of_heap hh) Tryz.own started (by kernel_rfl) Tryz.func18
    (ChangeSpec.witness_at (enc := enc) (C := Tryz.checked) (os := os) (X := fun w _ => laidMetH Tryz.prog laid1 w) false (laidWorld os) #[.int .i64 0] 8 rfl (by kernel_rfl) (by kernel_rfl) (by kernel_rfl) (by kernel_rfl) (by kernel_rfl) (laidWorld_met os _)) ?_
  intro W base args ds gs before hval0 hW _ _ hL _
  have hval : ∀ (j : Nat) t v, Tryz.f18.params[j]? = some t → args[j]? = some v → Value.okWide Tryz.prog W .any base t v := hval0
  have hW' := hW
  obtain ⟨p, q, hA0, hV0, rfl, hfz, hnd⟩ := hW
  have hcall := poolSeven_calls (enc := enc) hval hA0 hL
  refine Calls.mono hcall ?_
  rintro e W' ⟨rfl, hfr⟩
  exact ⟨_, rfl, post_kept Tryz.laidOut (by kernel_rfl) rfl rfl und4 hW' hfr (by
    have hg : gs = [] := by cases gs with | nil => rfl | cons g r => exact absurd hV0 (by intro h; cases h)
    subst hg
    have hA1 : DataW.TrodAll enc Tryz.prog W 0 (fun _ => true) true Tryz.f18.params.toList args.toList ds p := hA0
    rw [Tryz.params18] at hA1
    obtain ⟨v0, d0, ea, rfl, h0⟩ := trodAll_one hA1
    rfl)⟩

theorem poolSeven_row : Rows.PoolSevenSaid :=
  OpenClaim.holds_of_wide 18 Tryz.f18 rfl rfl rfl rfl rfl rfl rfl ⟨rfl, rfl, rfl, rfl, rfl⟩ rfl rfl rfl rfl rfl (by kernel_rfl) Tryz.func18 (restFacts.2 _ _ _ _ _ Tryz.mayEnter Tryz.liftsFinal Tryz.make (by kernel_rfl))
    (of_decide_eq_true (by kernel_rfl)) (by unfold Func.isWrapper; rw [if_neg (of_decide_eq_false (by kernel_rfl))]; exact ⟨rfl, rfl⟩)
    (fun os started H enc _ => poolSeven_lifted os started H enc)
theorem poolSeven_card : Rows.PoolSevenCardSaid :=
  Claim7.holds_tied_plain_at .later [] [.handle] true (true, "8c0441bbc8609432f713c1c89f5af20e6af72254f1482b9eed96a33066278ab6") true
    poolSeven_row (fun _ h => by cases h) (by kernel_rfl) (fun _ h => by cases h) poolSeven_row_tie rfl ⟨rfl, rfl⟩ Tryz.mainIs rfl
    (fun f fn hf hfn => by
      obtain rfl : f = 18 := Option.some.inj ((show Tryz.prog.funcNamed "messuage/messuagelaw2.PoolSeven" = some 18 by kernel_rfl).symm.trans hf) |>.symm
      obtain rfl : fn = Tryz.f18 := (Option.some.inj (Tryz.func18.symm.trans hfn)).symm
      exact ⟨by kernel_rfl, fun j t ht => by
        rw [Tryz.params18] at ht
        rcases j with _ | j
        · obtain rfl : 3 = t := by simpa using ht
          exact (show Tryz.prog.wantsStandIn 3 = false by kernel_rfl)
        · simp at ht⟩)
    (by kernel_rfl)
#print axioms poolSeven_card
end Go.Proofs.YthjfkblnbecjgaaGreatDoor
