/- The statement messuagelaw2.WordEach of the seat: for every input the law returns true; the condition: errors.errorType is as the program lays it. -/
import Derived.Test.YthjfkblnbecjgaaGreatDoorL2B
set_option linter.unusedVariables false
open Go Go.Sx
namespace Go.Proofs.YthjfkblnbecjgaaGreatDoor
open Go.ChangeShapes Go.WideShapes Go.RowKit
set_option maxRecDepth 100000

theorem wordEach_tree : (lawSpec 9 [.one (.i .u64), .agg L2.ks5]).exe Tryz.prog (L2.cfg2 Tryz.prog) [] 20 200 = .call 25 (L2.yes L2.f_messuagelaw2_begun).rel [] [] 0 0 (.letI (.cmp .geq (.v 0) (.c 1)) (.ite (.v 6) (.letI (.cmp .leq (.v 0) (.c 10)) (.ite (.v 7) (.done [] []) (.letI (.cmp .geq (.v 0) (.c 20)) (.ite (.v 8) (.letI (.cmp .leq (.v 0) (.c 23)) (.ite (.v 9) (.done [] []) (.done [] []))) (.done [] []))))) (.done [] []))) := by kernel_rfl
set_option maxHeartbeats 4000000 in
theorem wordEach_holds : ((lawSpec 9 [.one (.i .u64), .agg L2.ks5]).withPre fun _ => True).Holds Tryz.prog L2.ro := FSpec.holds (cfg := L2.cfg2 Tryz.prog) [] 20 200 cfg2_ok mixed (by
  intro is ls h1 h2 hp hr hl
  rw [exe_withPre, wordEach_tree]
  obtain ⟨a, b, c, d, e, f, rfl⟩ := list6 h1
  simp [den_letI, den_ite, den_done, call_none, L2.yes, FSpec.withPre, lawSpec, PSt.add])

theorem wordEach_calls {H : Type} {enc : TypeId × Value → H} {W : World} {base : Nat} {args : Array Value} {ds : List (DataW H)} {p : List MemPlace} (hval : ∀ (j : Nat) t v, Tryz.f9.params[j]? = some t → args[j]? = some v → Value.okWide Tryz.prog W .any base t v)
    (hA : DataW.TrodAll enc Tryz.prog W 0 (fun _ => true) true Tryz.f9.params.toList args.toList ds p) (hL : laidMetH Tryz.prog laid1 W) : Calls Tryz.prog 9 args W fun e W' => e = .returned (.bool true) ∧ Go.Sx.Frame ⟨W, [], L2.ro⟩ W' := by
  rw [Tryz.params9] at hA hval
  obtain ⟨v0, v1, d0, d1, p0, p1, rfl, rfl, rfl, h0, h1⟩ := trodAll_two hA
  obtain ⟨n0, q0⟩ := par_int (base := 0) und24 (hval 0 24 v0 rfl rfl) h0
  obtain ⟨e1, q1⟩ := par_flat (base := 0) (f := 9) (by first | exact agg26 | rw [und26]) flat26 (hval 1 26 v1 rfl rfl) h1
  exact law_calls (wordEach_holds) Tryz.func9 (show Tryz.f9.body = some _ from rfl) (by kernel_rfl) (.cons q0 (.cons q1 .none)) trivial (ro_of_laid hL)
set_option maxHeartbeats 1000000 in
theorem wordEach_lifted (os : Os) (started : os.Started) (H : Type) (enc : TypeId × Value → H) :
    ReturnsInHanded {} Tryz.checked os 9 .any (fun w args => (Rows.wordEachSpec.pre enc Tryz.prog Tryz.f9 [] false w args ∧ laidMetH Tryz.prog laid1 w) ∧ sizedMet enc Tryz.prog Tryz.f9 (OpenSpec.ofChange Rows.wordEachSpec) false w args)
      (Rows.wordEachSpec.post enc Tryz.prog Tryz.f9 false true false false) := by
  refine returnsInHanded_of_change_and (C := Tryz.checked) (X := fun w _ => laidMetH Tryz.prog laid1 w) (fun _ _ _ hh h => h.of_heap hh) Tryz.own started (by kernel_rfl) Tryz.func9
    (ChangeSpec.witness_at (enc := enc) (C := Tryz.checked) (os := os) (X := fun w _ => laidMetH Tryz.prog laid1 w) false (laidWorld os) #[.int .u64 0, .agg #[.int .u64 0, .int .u64 0, .int .u64 0, .int .u64 0, .int .u64 0]] 8 rfl (by kernel_rfl) (by kernel_rfl) (by kernel_rfl) (by kernel_rfl) (by kernel_rfl) (laidWorld_met os _)) ?_
  intro W base args ds gs before hval0 hW _ _ hL _
  have hval : ∀ (j : Nat) t v, Tryz.f9.params[j]? = some t → args[j]? = some v → Value.okWide Tryz.prog W .any base t v := hval0
  have hW' := hW
  obtain ⟨p, q, hA0, hV0, rfl, hfz, hnd⟩ := hW
  have hcall := wordEach_calls (enc := enc) hval hA0 hL
  refine Calls.mono hcall ?_
  rintro e W' ⟨rfl, hfr⟩
  exact ⟨_, rfl, post_kept Tryz.laidOut (by kernel_rfl) rfl rfl und4 hW' hfr (by
    have hg : gs = [] := by cases gs with | nil => rfl | cons g r => exact absurd hV0 (by intro h; cases h)
    subst hg
    have hA1 : DataW.TrodAll enc Tryz.prog W 0 (fun _ => true) true Tryz.f9.params.toList args.toList ds p := hA0
    rw [Tryz.params9] at hA1
    obtain ⟨v0, v1, d0, d1, p0, p1, ea, rfl, ec, h0, h1⟩ := trodAll_two hA1
    rfl)⟩

theorem wordEach_row : Rows.WordEachSaid :=
  OpenClaim.holds_of_wide 9 Tryz.f9 rfl rfl rfl rfl rfl rfl rfl ⟨rfl, rfl, rfl, rfl, rfl⟩ rfl rfl rfl rfl rfl (by kernel_rfl) Tryz.func9 (restFacts.2 _ _ _ _ _ Tryz.mayEnter Tryz.liftsFinal Tryz.make (by kernel_rfl))
    (of_decide_eq_true (by kernel_rfl)) (by unfold Func.isWrapper; rw [if_neg (of_decide_eq_false (by kernel_rfl))]; exact ⟨rfl, rfl⟩)
    (fun os started H enc _ => wordEach_lifted os started H enc)
theorem wordEach_card : Rows.WordEachCardSaid :=
  Claim7.holds_tied_plain_at .later [] [.handle] true (true, "8c0441bbc8609432f713c1c89f5af20e6af72254f1482b9eed96a33066278ab6") true
    wordEach_row (fun _ h => by cases h) (by kernel_rfl) (fun _ h => by cases h) wordEach_row_tie rfl ⟨rfl, rfl⟩ Tryz.mainIs rfl
    (fun f fn hf hfn => by
      obtain rfl : f = 9 := Option.some.inj ((show Tryz.prog.funcNamed "messuage/messuagelaw2.WordEach" = some 9 by kernel_rfl).symm.trans hf) |>.symm
      obtain rfl : fn = Tryz.f9 := (Option.some.inj (Tryz.func9.symm.trans hfn)).symm
      exact ⟨by kernel_rfl, fun j t ht => by
        rw [Tryz.params9] at ht
        rcases j with _ | _ | j
        · obtain rfl : 24 = t := by simpa using ht
          exact (show Tryz.prog.wantsStandIn 24 = false by kernel_rfl)
        · obtain rfl : 26 = t := by simpa using ht
          exact (show Tryz.prog.wantsStandIn 26 = false by kernel_rfl)
        · simp at ht⟩)
    (by kernel_rfl)
#print axioms wordEach_card
end Go.Proofs.YthjfkblnbecjgaaGreatDoor
