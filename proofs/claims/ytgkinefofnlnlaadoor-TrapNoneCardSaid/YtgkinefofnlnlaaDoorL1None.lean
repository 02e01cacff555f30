/- The statement messuagelaw1.TrapNone of the seat: for every input the law returns true; the condition: errors.errorType is as the program lays it. -/
import Derived.Test.YtgkinefofnlnlaaDoorL1D
import Derived.LaidMore
set_option linter.unusedVariables false
open Go Go.Sx
namespace Go.Proofs.YtgkinefofnlnlaaDoor
open Go.ChangeShapes Go.WideShapes Go.RowKit
set_option maxRecDepth 100000

abbrev laid4 : List (String × DataW Unit) := Rows.trapNoneRow.laid
/-- What the condition gives a walk: the one cell that is read. -/
theorem ro_of_laid4 {W : World} (h : laidMetH Tryd.prog laid4 W) : ∀ p ∈ L1.ro, W.cell? p.1 = some p.2 ∧ p.1.block < W.heap.size := by
  have h' : laidMet Tryd.prog (laid4.filter fun x => x.2.handleName?.isNone) W ∧ handlesMet Tryd.prog laid1 W := h
  refine ro_of_laid (W := W) ?_
  exact ⟨laidMet_nil _ _, h'.2⟩
/-- The door's own heap meets the condition. -/
theorem door_met (os : Os) (args : Array Value) : laidMetH Tryd.prog laid4 ((World.doorLaid Tryd.prog 400 os).forCall (fun _ _ => 0) ⟨#[], args, []⟩).memory :=
  laidMetH_of_parts3 (fuel := 8) (laidMet_of_run' 8 (by kernel_rfl) (by kernel_rfl)) (by kernel_rfl) (by kernel_rfl)

set_option maxHeartbeats 1000000 in
theorem trapNone_lifted (os : Os) (started : os.Started) (H : Type) (enc : TypeId × Value → H) :
    ReturnsInHanded {} Tryd.checked os 4 .any (fun w args => (Rows.trapNoneSpec.pre enc Tryd.prog Tryd.f4 [] false w args ∧ laidMetH Tryd.prog laid4 w) ∧ sizedMet enc Tryd.prog Tryd.f4 (OpenSpec.ofChange Rows.trapNoneSpec) false w args)
      (Rows.trapNoneSpec.post enc Tryd.prog Tryd.f4 false true false false) := by
  refine returnsInHanded_of_change_and (C := Tryd.checked) (X := fun w _ => laidMetH Tryd.prog laid4 w) (fun _ _ _ hh h => h.of_heap hh) Tryd.own started (by kernel_rfl) Tryd.func4
    (ChangeSpec.witness_shaped (enc := enc) (C := Tryd.checked) (os := os) (X := fun w _ => laidMetH Tryd.prog laid4 w) false (World.doorLaid Tryd.prog 400 os) #[] 8 rfl (World.shaped_of_RefB (by kernel_rfl) (by kernel_rfl)) (by kernel_rfl) (by kernel_rfl) (by kernel_rfl) (door_met os _)) ?_
  intro W base args ds gs before hval0 hW _ _ hL _
  have hval : ∀ (j : Nat) t v, Tryd.f4.params[j]? = some t → args[j]? = some v → Value.okWide Tryd.prog W .any base t v := hval0
  have hW' := hW
  obtain ⟨p, q, hA0, hV0, rfl, hfz, hnd⟩ := hW
  have hA : DataW.TrodAll enc Tryd.prog W 0 (fun _ => true) true Tryd.f4.params.toList args.toList ds p := hA0
  rw [Tryd.params4] at hA hval
  obtain ⟨ea, rfl, rfl⟩ := trodAll_nil hA
  obtain rfl : args = #[] := by cases args; simp_all
  have hcall := FSpec.law (W := W) (is := []) none_holds Tryd.func4 (show Tryd.f4.body = some _ from rfl) (by kernel_rfl) rfl rfl rfl rfl rfl rfl
    (by intro r hr; cases hr) rfl trivial (ro_of_laid4 hL)
  have hargs : (SV.dens ⟨[], [], []⟩ (L1.lawI 4 0 fun _ => True).args).toArray = #[] := by
    simp [L1.lawI, List.range, List.range.loop, SV.dens]
  rw [hargs] at hcall
  show Calls Tryd.prog 4 _ W _
  refine Calls.mono hcall ?_
  rintro e W' ⟨rfl, hfr⟩
  exact ⟨_, rfl, post_kept Tryd.laidOut (by kernel_rfl) rfl rfl und4 hW' hfr (by
    have hg : gs = [] := by cases gs with | nil => rfl | cons g r => exact absurd hV0 (by intro h; cases h)
    subst hg; rfl)⟩

theorem trapNone_row : Rows.TrapNoneSaid :=
  OpenClaim.holds_of_wide 4 Tryd.f4 rfl rfl rfl rfl rfl rfl rfl ⟨rfl, rfl, rfl, rfl, rfl⟩ rfl rfl rfl rfl rfl (by kernel_rfl) Tryd.func4 (by kernel_rfl)
    (of_decide_eq_true (by kernel_rfl)) (by unfold Func.isWrapper; rw [if_neg (of_decide_eq_false (by kernel_rfl))]; exact ⟨rfl, rfl⟩)
    (fun os started H enc _ => trapNone_lifted os started H enc)
theorem trapNone_card : Rows.TrapNoneCardSaid :=
  Claim7.holds_tied_plain_at .later [] [.data, .data, .data, .handle] true (true, "7638421efab938d917ef4a33a3f13491bb579d54ec70411b972aa9fe9f152a7b") true
    trapNone_row (fun _ h => by cases h) (by kernel_rfl) (fun _ h => by cases h) trapNone_row_tie rfl ⟨rfl, rfl⟩ (by kernel_rfl) rfl
    (fun f fn hf hfn => by
      obtain rfl : f = 4 := Option.some.inj ((show Tryd.prog.funcNamed "messuage/messuagelaw1.TrapNone" = some 4 by kernel_rfl).symm.trans hf) |>.symm
      obtain rfl : fn = Tryd.f4 := (Option.some.inj (Tryd.func4.symm.trans hfn)).symm
      exact ⟨by kernel_rfl, fun j t ht => by
        rw [Tryd.params4] at ht
        simp at ht⟩)
    (by kernel_rfl)
#print axioms trapNone_card
end Go.Proofs.YtgkinefofnlnlaaDoor
