/- The statement messuagelaw2.MemAtomic of the seat: for every input the law returns true; the condition: errors.errorType is as the program lays it. -/
import Derived.Test.YthjfkblnbecjgaaGreatDoorL2B
set_option linter.unusedVariables false
open Go Go.Sx
namespace Go.Proofs.YthjfkblnbecjgaaGreatDoor
open Go.ChangeShapes Go.WideShapes Go.RowKit
set_option maxRecDepth 100000

theorem memAtomic_tree : (lawSpec 17 [.slc [.i .u64], .one (.i .u64), .one (.i .u64)]).exe Tryz.prog (L2.cfg2 Tryz.prog) [] 40 200 = .call 25 (L2.yes L2.f_messuagelaw2_begun).rel [] [] 0 0 (.any (.c 1) (.c 9223372036854775807) (.letI (.cmp .lss (.c 0) (.v 0)) (.ite (.v 5) (.letI (.get 0 (.c 0)) (.letI (.cmp .lss (.c 1) (.v 0)) (.ite (.v 7) (.letI (.get 0 (.c 1)) (.letI (.add (.v 6) (.v 8)) (.letI (.wr .u64 (.v 9)) (.letI (.cmp .lss (.c 2) (.v 0)) (.ite (.v 11) (.letI (.get 0 (.c 2)) (.letI (.add (.v 10) (.v 12)) (.letI (.wr .u64 (.v 13)) (.letI (.cmp .lss (.c 3) (.v 0)) (.ite (.v 15) (.letI (.get 0 (.c 3)) (.letI (.add (.v 14) (.v 16)) (.letI (.wr .u64 (.v 17)) (.letI (.cmp .lss (.c 4) (.v 0)) (.ite (.v 19) (.letI (.get 0 (.c 4)) (.letI (.add (.v 18) (.v 20)) (.letI (.wr .u64 (.v 21)) (.letI (.cmp .lss (.c 5) (.v 0)) (.ite (.v 23) (.letI (.get 0 (.c 5)) (.letI (.add (.v 22) (.v 24)) (.letI (.wr .u64 (.v 25)) (.letI (.cmp .lss (.c 6) (.v 0)) (.ite (.v 27) (.letI (.get 0 (.c 6)) (.letI (.add (.v 26) (.v 28)) (.letI (.wr .u64 (.v 29)) (.letI (.cmp .lss (.c 7) (.v 0)) (.ite (.v 31) (.letI (.get 0 (.c 7)) (.letI (.add (.v 30) (.v 32)) (.letI (.wr .u64 (.v 33)) (.letI (.cmp .lss (.c 8) (.v 0)) (.ite (.v 35) (.letI (.get 0 (.c 8)) (.letI (.add (.v 34) (.v 36)) (.letI (.wr .u64 (.v 37)) (.letI (.cmp .lss (.c 9) (.v 0)) (.ite (.v 39) (.letI (.get 0 (.c 9)) (.letI (.add (.v 38) (.v 40)) (.letI (.wr .u64 (.v 41)) (.letI (.cmp .lss (.c 10) (.v 0)) (.ite (.v 43) (.letI (.get 0 (.c 10)) (.letI (.add (.v 42) (.v 44)) (.letI (.wr .u64 (.v 45)) (.letI (.cmp .lss (.c 11) (.v 0)) (.ite (.v 47) (.letI (.get 0 (.c 11)) (.letI (.add (.v 46) (.v 48)) (.letI (.wr .u64 (.v 49)) (.letI (.cmp .lss (.c 12) (.v 0)) (.ite (.v 51) (.letI (.get 0 (.c 12)) (.letI (.add (.v 50) (.v 52)) (.letI (.wr .u64 (.v 53)) (.letI (.cmp .lss (.c 13) (.v 0)) (.ite (.v 55) (.letI (.get 0 (.c 13)) (.letI (.add (.v 54) (.v 56)) (.letI (.wr .u64 (.v 57)) (.letI (.cmp .lss (.c 14) (.v 0)) (.ite (.v 59) (.letI (.get 0 (.c 14)) (.letI (.add (.v 58) (.v 60)) (.letI (.wr .u64 (.v 61)) (.letI (.cmp .lss (.c 15) (.v 0)) (.ite (.v 63) (.letI (.get 0 (.c 15)) (.letI (.add (.v 62) (.v 64)) (.letI (.wr .u64 (.v 65)) (.letI (.cmp .lss (.c 16) (.v 0)) (.ite (.v 67) (.letI (.get 0 (.c 16)) (.letI (.add (.v 66) (.v 68)) (.letI (.wr .u64 (.v 69)) (.letI (.cmp .lss (.c 17) (.v 0)) (.ite (.v 71) (.letI (.get 0 (.c 17)) (.letI (.add (.v 70) (.v 72)) (.letI (.wr .u64 (.v 73)) (.letI (.cmp .lss (.c 18) (.v 0)) (.ite (.v 75) (.letI (.get 0 (.c 18)) (.letI (.add (.v 74) (.v 76)) (.letI (.wr .u64 (.v 77)) (.letI (.cmp .lss (.c 19) (.v 0)) (.ite (.v 79) (.letI (.get 0 (.c 19)) (.letI (.add (.v 78) (.v 80)) (.letI (.wr .u64 (.v 81)) (.letI (.cmp .lss (.c 20) (.v 0)) (.ite (.v 83) (.letI (.get 0 (.c 20)) (.letI (.add (.v 82) (.v 84)) (.letI (.wr .u64 (.v 85)) (.letI (.cmp .lss (.c 21) (.v 0)) (.ite (.v 87) (.letI (.get 0 (.c 21)) (.letI (.add (.v 86) (.v 88)) (.letI (.wr .u64 (.v 89)) (.letI (.cmp .lss (.c 22) (.v 0)) (.ite (.v 91) (.letI (.get 0 (.c 22)) (.letI (.add (.v 90) (.v 92)) (.letI (.wr .u64 (.v 93)) (.letI (.cmp .lss (.c 23) (.v 0)) (.ite (.v 95) (.letI (.get 0 (.c 23)) (.letI (.add (.v 94) (.v 96)) (.letI (.wr .u64 (.v 97)) (.letI (.cmp .lss (.c 24) (.v 0)) (.ite (.v 99) (.letI (.get 0 (.c 24)) (.letI (.add (.v 98) (.v 100)) (.letI (.wr .u64 (.v 101)) (.letI (.cmp .lss (.c 25) (.v 0)) (.ite (.v 103) (.letI (.get 0 (.c 25)) (.letI (.add (.v 102) (.v 104)) (.letI (.wr .u64 (.v 105)) (.letI (.cmp .lss (.c 26) (.v 0)) (.ite (.v 107) (.letI (.get 0 (.c 26)) (.letI (.add (.v 106) (.v 108)) (.letI (.wr .u64 (.v 109)) (.letI (.cmp .lss (.c 27) (.v 0)) (.ite (.v 111) (.letI (.get 0 (.c 27)) (.letI (.add (.v 110) (.v 112)) (.letI (.wr .u64 (.v 113)) (.letI (.cmp .lss (.c 28) (.v 0)) (.ite (.v 115) (.letI (.get 0 (.c 28)) (.letI (.add (.v 114) (.v 116)) (.letI (.wr .u64 (.v 117)) (.letI (.cmp .lss (.c 29) (.v 0)) (.ite (.v 119) (.letI (.get 0 (.c 29)) (.letI (.add (.v 118) (.v 120)) (.letI (.wr .u64 (.v 121)) (.letI (.cmp .lss (.c 30) (.v 0)) (.ite (.v 123) (.letI (.cmp .eql (.v 2) (.v 122)) (.ite (.v 124) (.done [] []) (.done [] []))) (.letI (.cmp .eql (.v 2) (.v 122)) (.ite (.v 124) (.done [] []) (.done [] [])))))))) (.letI (.cmp .eql (.v 2) (.v 118)) (.ite (.v 120) (.done [] []) (.done [] [])))))))) (.letI (.cmp .eql (.v 2) (.v 114)) (.ite (.v 116) (.done [] []) (.done [] [])))))))) (.letI (.cmp .eql (.v 2) (.v 110)) (.ite (.v 112) (.done [] []) (.done [] [])))))))) (.letI (.cmp .eql (.v 2) (.v 106)) (.ite (.v 108) (.done [] []) (.done [] [])))))))) (.letI (.cmp .eql (.v 2) (.v 102)) (.ite (.v 104) (.done [] []) (.done [] [])))))))) (.letI (.cmp .eql (.v 2) (.v 98)) (.ite (.v 100) (.done [] []) (.done [] [])))))))) (.letI (.cmp .eql (.v 2) (.v 94)) (.ite (.v 96) (.done [] []) (.done [] [])))))))) (.letI (.cmp .eql (.v 2) (.v 90)) (.ite (.v 92) (.done [] []) (.done [] [])))))))) (.letI (.cmp .eql (.v 2) (.v 86)) (.ite (.v 88) (.done [] []) (.done [] [])))))))) (.letI (.cmp .eql (.v 2) (.v 82)) (.ite (.v 84) (.done [] []) (.done [] [])))))))) (.letI (.cmp .eql (.v 2) (.v 78)) (.ite (.v 80) (.done [] []) (.done [] [])))))))) (.letI (.cmp .eql (.v 2) (.v 74)) (.ite (.v 76) (.done [] []) (.done [] [])))))))) (.letI (.cmp .eql (.v 2) (.v 70)) (.ite (.v 72) (.done [] []) (.done [] [])))))))) (.letI (.cmp .eql (.v 2) (.v 66)) (.ite (.v 68) (.done [] []) (.done [] [])))))))) (.letI (.cmp .eql (.v 2) (.v 62)) (.ite (.v 64) (.done [] []) (.done [] [])))))))) (.letI (.cmp .eql (.v 2) (.v 58)) (.ite (.v 60) (.done [] []) (.done [] [])))))))) (.letI (.cmp .eql (.v 2) (.v 54)) (.ite (.v 56) (.done [] []) (.done [] [])))))))) (.letI (.cmp .eql (.v 2) (.v 50)) (.ite (.v 52) (.done [] []) (.done [] [])))))))) (.letI (.cmp .eql (.v 2) (.v 46)) (.ite (.v 48) (.done [] []) (.done [] [])))))))) (.letI (.cmp .eql (.v 2) (.v 42)) (.ite (.v 44) (.done [] []) (.done [] [])))))))) (.letI (.cmp .eql (.v 2) (.v 38)) (.ite (.v 40) (.done [] []) (.done [] [])))))))) (.letI (.cmp .eql (.v 2) (.v 34)) (.ite (.v 36) (.done [] []) (.done [] [])))))))) (.letI (.cmp .eql (.v 2) (.v 30)) (.ite (.v 32) (.done [] []) (.done [] [])))))))) (.letI (.cmp .eql (.v 2) (.v 26)) (.ite (.v 28) (.done [] []) (.done [] [])))))))) (.letI (.cmp .eql (.v 2) (.v 22)) (.ite (.v 24) (.done [] []) (.done [] [])))))))) (.letI (.cmp .eql (.v 2) (.v 18)) (.ite (.v 20) (.done [] []) (.done [] [])))))))) (.letI (.cmp .eql (.v 2) (.v 14)) (.ite (.v 16) (.done [] []) (.done [] [])))))))) (.letI (.cmp .eql (.v 2) (.v 10)) (.ite (.v 12) (.done [] []) (.done [] [])))))))) (.letI (.cmp .eql (.v 2) (.v 6)) (.ite (.v 8) (.done [] []) (.done [] [])))))) (.letI (.cmp .eql (.v 2) (.c 0)) (.ite (.v 6) (.done [] []) (.done [] [])))))) := by kernel_rfl
set_option maxHeartbeats 4000000 in
theorem memAtomic_holds : ((lawSpec 17 [.slc [.i .u64], .one (.i .u64), .one (.i .u64)]).withPre fun _ => True).Holds Tryz.prog L2.ro := FSpec.holds (cfg := L2.cfg2 Tryz.prog) [] 40 200 cfg2_ok mixed (by
  intro is ls h1 h2 hp hr hl
  rw [exe_withPre, memAtomic_tree]
  rw [call_yes]
  exact calm_ok (fun _ _ => trivial) _ _ _ (by decide +kernel))

theorem memAtomic_tree_n : (lawSpec 17 [.nil, .one (.i .u64), .one (.i .u64)]).exe Tryz.prog (L2.cfg2 Tryz.prog) [] 40 200 = .call 25 (L2.yes L2.f_messuagelaw2_begun).rel [] [] 0 0 (.any (.c 1) (.c 9223372036854775807) (.letI (.cmp .eql (.v 0) (.c 0)) (.ite (.v 3) (.done [] []) (.done [] [])))) := by kernel_rfl
set_option maxHeartbeats 4000000 in
theorem memAtomic_holds_n : ((lawSpec 17 [.nil, .one (.i .u64), .one (.i .u64)]).withPre fun _ => True).Holds Tryz.prog L2.ro := FSpec.holds (cfg := L2.cfg2 Tryz.prog) [] 40 200 cfg2_ok mixed (by
  intro is ls h1 h2 hp hr hl
  rw [exe_withPre, memAtomic_tree_n]
  rw [call_yes]
  exact calm_ok (fun _ _ => trivial) _ _ _ (by decide +kernel))

theorem memAtomic_calls {H : Type} {enc : TypeId × Value → H} {W : World} {base : Nat} {args : Array Value} {ds : List (DataW H)} {p : List MemPlace} (hval : ∀ (j : Nat) t v, Tryz.f17.params[j]? = some t → args[j]? = some v → Value.okWide Tryz.prog W .any base t v)
    (hA : DataW.TrodAll enc Tryz.prog W 0 (fun _ => true) true Tryz.f17.params.toList args.toList ds p) (hL : laidMetH Tryz.prog laid1 W) : Calls Tryz.prog 17 args W fun e W' => e = .returned (.bool true) ∧ Go.Sx.Frame ⟨W, [], L2.ro⟩ W' := by
  rw [Tryz.params17] at hA hval
  obtain ⟨v0, v1, v2, d0, d1, d2, p0, p1, p2, rfl, rfl, rfl, h0, h1, h2⟩ := trodAll_three hA
  obtain ⟨n1, q1⟩ := par_int (base := 0) und24 (hval 1 24 v1 rfl rfl) h1
  obtain ⟨n2, q2⟩ := par_int (base := 0) und24 (hval 2 24 v2 rfl rfl) h2
  rcases par_flats (base := 0) (f := 9) und40 flat24 cells24 (by decide) (hval 0 40 v0 rfl rfl) h0 with q0 | ⟨e0, q0⟩
  · exact law_calls (memAtomic_holds_n) Tryz.func17 (show Tryz.f17.body = some _ from rfl) (by kernel_rfl) (.cons q0 (.cons q1 (.cons q2 .none))) trivial (ro_of_laid hL)
  · exact law_calls (memAtomic_holds) Tryz.func17 (show Tryz.f17.body = some _ from rfl) (by kernel_rfl) (.cons q0 (.cons q1 (.cons q2 .none))) trivial (ro_of_laid hL)
set_option maxHeartbeats 1000000 in
theorem memAtomic_lifted (os : Os) (started : os.Started) (H : Type) (enc : TypeId × Value → H) :
    ReturnsInHanded {} Tryz.checked os 17 .any (fun w args => (Rows.memAtomicSpec.pre enc Tryz.prog Tryz.f17 [] false w args ∧ laidMetH Tryz.prog laid1 w) ∧ sizedMet enc Tryz.prog Tryz.f17 (OpenSpec.ofChange Rows.memAtomicSpec) false w args)
      (Rows.memAtomicSpec.post enc Tryz.prog Tryz.f17 false true false false) := by
  refine returnsInHanded_of_change_and (C := Tryz.checked) (X := fun w _ => laidMetH Tryz.prog laid1 w) (fun _ _ _ hh h => h.of_heap hh) Tryz.own started (by kernel_rfl) Tryz.func17
    (ChangeSpec.witness_at (enc := enc) (C := Tryz.checked) (os := os) (X := fun w _ => laidMetH Tryz.prog laid1 w) false (laidWorld os) #[.slice none 0 0, .int .u64 0, .int .u64 0] 8 rfl (by kernel_rfl) (by kernel_rfl) (by kernel_rfl) (by kernel_rfl) (by kernel_rfl) (laidWorld_met os _)) ?_
  intro W base args ds gs before hval0 hW _ _ hL _
  have hval : ∀ (j : Nat) t v, Tryz.f17.params[j]? = some t → args[j]? = some v → Value.okWide Tryz.prog W .any base t v := hval0
  have hW' := hW
  obtain ⟨p, q, hA0, hV0, rfl, hfz, hnd⟩ := hW
  have hcall := memAtomic_calls (enc := enc) hval hA0 hL
  refine Calls.mono hcall ?_
  rintro e W' ⟨rfl, hfr⟩
  exact ⟨_, rfl, post_kept Tryz.laidOut (by kernel_rfl) rfl rfl und4 hW' hfr (by
    have hg : gs = [] := by cases gs with | nil => rfl | cons g r => exact absurd hV0 (by intro h; cases h)
    subst hg
    have hA1 : DataW.TrodAll enc Tryz.prog W 0 (fun _ => true) true Tryz.f17.params.toList args.toList ds p := hA0
    rw [Tryz.params17] at hA1
    obtain ⟨v0, v1, v2, d0, d1, d2, p0, p1, p2, ea, rfl, ec, h0, h1, h2⟩ := trodAll_three hA1
    rfl)⟩

theorem memAtomic_row : Rows.MemAtomicSaid :=
  OpenClaim.holds_of_wide 17 Tryz.f17 rfl rfl rfl rfl rfl rfl rfl ⟨rfl, rfl, rfl, rfl, rfl⟩ rfl rfl rfl rfl rfl (by kernel_rfl) Tryz.func17 (restFacts.2 _ _ _ _ _ Tryz.mayEnter Tryz.liftsFinal Tryz.make (by kernel_rfl))
    (of_decide_eq_true (by kernel_rfl)) (by unfold Func.isWrapper; rw [if_neg (of_decide_eq_false (by kernel_rfl))]; exact ⟨rfl, rfl⟩)
    (fun os started H enc _ => memAtomic_lifted os started H enc)
theorem memAtomic_card : Rows.MemAtomicCardSaid :=
  Claim7.holds_tied_plain_at .later [] [.handle] true (true, "8c0441bbc8609432f713c1c89f5af20e6af72254f1482b9eed96a33066278ab6") true
    memAtomic_row (fun _ h => by cases h) (by kernel_rfl) (fun _ h => by cases h) memAtomic_row_tie rfl ⟨rfl, rfl⟩ Tryz.mainIs rfl
    (fun f fn hf hfn => by
      obtain rfl : f = 17 := Option.some.inj ((show Tryz.prog.funcNamed "messuage/messuagelaw2.MemAtomic" = some 17 by kernel_rfl).symm.trans hf) |>.symm
      obtain rfl : fn = Tryz.f17 := (Option.some.inj (Tryz.func17.symm.trans hfn)).symm
      exact ⟨by kernel_rfl, fun j t ht => by
        rw [Tryz.params17] at ht
        rcases j with _ | _ | _ | j
        · obtain rfl : 40 = t := by simpa using ht
          exact (show Tryz.prog.wantsStandIn 40 = false by kernel_rfl)
        · obtain rfl : 24 = t := by simpa using ht
          exact (show Tryz.prog.wantsStandIn 24 = false by kernel_rfl)
        · obtain rfl : 24 = t := by simpa using ht
          exact (show Tryz.prog.wantsStandIn 24 = false by kernel_rfl)
        · simp at ht⟩)
    (by kernel_rfl)
#print axioms memAtomic_card
end Go.Proofs.YthjfkblnbecjgaaGreatDoor
