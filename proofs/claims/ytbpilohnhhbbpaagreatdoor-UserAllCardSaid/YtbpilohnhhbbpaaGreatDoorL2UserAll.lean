/- The statement messuagelaw11.UserAll of the seat: for every input the law returns true; the condition: errors.errorType is as the program lays it. -/
import Derived.Test.YtbpilohnhhbbpaaGreatDoorL2B
import Derived.Test.YtbpilohnhhbbpaaGreatDoorSxM7
import Derived.Test.YtbpilohnhhbbpaaGreatDoorSxSel
import Derived.Test.YtbpilohnhhbbpaaGreatDoorL2CB
import Derived.Test.YtbpilohnhhbbpaaGreatDoorL2S
import Derived.Test.YtbpilohnhhbbpaaGreatDoorL2UserAllV
import Derived.Test.YtbpilohnhhbbpaaGreatDoorL2VN
import Derived.Test.YtbpilohnhhbbpaaGreatDoorL2UserAllVSNS
import Derived.Test.YtbpilohnhhbbpaaGreatDoorL2UserAllVNSS
import Derived.Test.YtbpilohnhhbbpaaGreatDoorL2UserAllVNNS
set_option linter.unusedVariables false
set_option linter.constructorNameAsVariable false
set_option linter.unusedSimpArgs false
open Go Go.Sx
namespace Go.Proofs.YtbpilohnhhbbpaaGreatDoor
open Go.ChangeShapes Go.WideShapes Go.RowKit
set_option maxRecDepth 100000
theorem userAll_calls {H : Type} {enc : TypeId × Value → H} {W : World} {base : Nat} {args : Array Value} {ds : List (DataW H)} {p : List MemPlace} (hval : ∀ (j : Nat) t v, Tryz.f9.params[j]? = some t → args[j]? = some v → Value.okWide Tryz.prog W .any base t v)
    (hA : DataW.TrodAll enc Tryz.prog W 0 (fun _ => true) true Tryz.f9.params.toList args.toList ds p) (hL : laidMetH Tryz.prog laid1 W) : Calls Tryz.prog 9 args W fun e W' => e = .returned (.bool true) ∧ Go.Sx.Frame ⟨W, [], L2.ro⟩ W' := by
  rw [Tryz.params9] at hA hval
  obtain ⟨v0, v1, v2, d0, d1, d2, p0, p1, p2, rfl, rfl, rfl, h0, h1, h2⟩ := trodAll_three hA
  rcases par_flats (base := 0) (f := 9) und79 flat43 cells43 (by decide) (hval 0 79 v0 rfl rfl) h0 with q0 | ⟨e0, q0⟩ <;> rcases par_flats (base := 0) (f := 9) und80 flat73 cells73 (by decide) (hval 1 80 v1 rfl rfl) h1 with q1 | ⟨e1, q1⟩ <;> rcases par_flats (base := 0) (f := 9) und81 flat92 cells92 (by decide) (hval 2 81 v2 rfl rfl) h2 with q2 | ⟨e2, q2⟩
  · exact law_calls (userAll_holds_nnn) Tryz.func9 (show Tryz.f9.body = some _ from rfl) (by kernel_rfl) (.cons q0 (.cons q1 (.cons q2 .none))) trivial (ro_of_laid hL)
  · exact law_calls (userAll_holds_nns) Tryz.func9 (show Tryz.f9.body = some _ from rfl) (by kernel_rfl) (.cons q0 (.cons q1 (.cons q2 .none))) trivial (ro_of_laid hL)
  · exact law_calls (userAll_holds_nsn) Tryz.func9 (show Tryz.f9.body = some _ from rfl) (by kernel_rfl) (.cons q0 (.cons q1 (.cons q2 .none))) trivial (ro_of_laid hL)
  · exact law_calls (userAll_holds_nss) Tryz.func9 (show Tryz.f9.body = some _ from rfl) (by kernel_rfl) (.cons q0 (.cons q1 (.cons q2 .none))) trivial (ro_of_laid hL)
  · exact law_calls (userAll_holds_snn) Tryz.func9 (show Tryz.f9.body = some _ from rfl) (by kernel_rfl) (.cons q0 (.cons q1 (.cons q2 .none))) trivial (ro_of_laid hL)
  · exact law_calls (userAll_holds_sns) Tryz.func9 (show Tryz.f9.body = some _ from rfl) (by kernel_rfl) (.cons q0 (.cons q1 (.cons q2 .none))) trivial (ro_of_laid hL)
  · exact law_calls (userAll_holds_ssn) Tryz.func9 (show Tryz.f9.body = some _ from rfl) (by kernel_rfl) (.cons q0 (.cons q1 (.cons q2 .none))) trivial (ro_of_laid hL)
  · exact law_calls (userAll_holds) Tryz.func9 (show Tryz.f9.body = some _ from rfl) (by kernel_rfl) (.cons q0 (.cons q1 (.cons q2 .none))) trivial (ro_of_laid hL)
set_option maxHeartbeats 1000000 in
theorem userAll_lifted (os : Os) (started : os.Started) (H : Type) (enc : TypeId × Value → H) :
    ReturnsInHanded {} Tryz.checked os 9 .any (fun w args => (Rows.userAllSpec.pre enc Tryz.prog Tryz.f9 [] false w args ∧ laidMetH Tryz.prog laid1 w) ∧ sizedMet enc Tryz.prog Tryz.f9 (OpenSpec.ofChange Rows.userAllSpec) false w args)
      (Rows.userAllSpec.post enc Tryz.prog Tryz.f9 false true false false) := by
  refine returnsInHanded_of_change_and (C := Tryz.checked) (X := fun w _ => laidMetH Tryz.prog laid1 w) (fun _ _ _ hh h => h.of_heap hh) Tryz.own started (by kernel_rfl) Tryz.func9
    (ChangeSpec.witness_at (enc := enc) (C := Tryz.checked) (os := os) (X := fun w _ => laidMetH Tryz.prog laid1 w) false (laidWorld os) #[.slice none 0 0, .slice none 0 0, .slice none 0 0] 8 rfl (by kernel_rfl) (by kernel_rfl) (by kernel_rfl) (by kernel_rfl) (by kernel_rfl) (laidWorld_met os _)) ?_
  intro W base args ds gs before hval0 hW _ _ hL _
  have hval : ∀ (j : Nat) t v, Tryz.f9.params[j]? = some t → args[j]? = some v → Value.okWide Tryz.prog W .any base t v := hval0
  have hW' := hW
  obtain ⟨p, q, hA0, hV0, rfl, hfz, hnd⟩ := hW
  have hcall := userAll_calls (enc := enc) hval hA0 hL
  refine Calls.mono hcall ?_
  rintro e W' ⟨rfl, hfr⟩
  exact ⟨_, rfl, post_kept Tryz.laidOut (by kernel_rfl) rfl rfl und4 hW' hfr (by
    have hg : gs = [] := by cases gs with | nil => rfl | cons g r => exact absurd hV0 (by intro h; cases h)
    subst hg
    have hA1 : DataW.TrodAll enc Tryz.prog W 0 (fun _ => true) true Tryz.f9.params.toList args.toList ds p := hA0
    rw [Tryz.params9] at hA1
    obtain ⟨v0, v1, v2, d0, d1, d2, p0, p1, p2, ea, rfl, ec, h0, h1, h2⟩ := trodAll_three hA1
    rfl)⟩
theorem userAll_row : Rows.UserAllSaid :=
  OpenClaim.holds_of_wide 9 Tryz.f9 rfl rfl rfl rfl rfl rfl rfl ⟨rfl, rfl, rfl, rfl, rfl⟩ rfl rfl rfl rfl rfl (by kernel_rfl) Tryz.func9 (restFacts.2 _ _ _ _ _ Tryz.mayEnter Tryz.liftsFinal Tryz.make (by kernel_rfl))
    (of_decide_eq_true (by kernel_rfl)) (by unfold Func.isWrapper; rw [if_neg (of_decide_eq_false (by kernel_rfl))]; exact ⟨rfl, rfl⟩)
    (fun os started H enc _ => userAll_lifted os started H enc)
theorem userAll_card : Rows.UserAllCardSaid :=
  Claim7.holds_tied_plain_at .later [] [.handle] true (true, "851eb3c6cb4eec7be8b282394a5029edcc67dd85afd058a13b27a4b6edc94801") true
    userAll_row (fun _ h => by cases h) (by kernel_rfl) (fun _ h => by cases h) userAll_row_tie rfl ⟨rfl, rfl⟩ Tryz.mainIs rfl
    (fun f fn hf hfn => by
      obtain rfl : f = 9 := Option.some.inj ((show Tryz.prog.funcNamed "messuage/messuagelaw11.UserAll" = some 9 by kernel_rfl).symm.trans hf) |>.symm
      obtain rfl : fn = Tryz.f9 := (Option.some.inj (Tryz.func9.symm.trans hfn)).symm
      exact ⟨by kernel_rfl, fun j t ht => by
        rw [Tryz.params9] at ht
        rcases j with _ | _ | _ | j
        · obtain rfl : 79 = t := by simpa using ht
          exact (show Tryz.prog.wantsStandIn 79 = false by kernel_rfl)
        · obtain rfl : 80 = t := by simpa using ht
          exact (show Tryz.prog.wantsStandIn 80 = false by kernel_rfl)
        · obtain rfl : 81 = t := by simpa using ht
          exact (show Tryz.prog.wantsStandIn 81 = false by kernel_rfl)
        · simp at ht⟩)
    (by kernel_rfl)
#print axioms userAll_card
end Go.Proofs.YtbpilohnhhbbpaaGreatDoor
