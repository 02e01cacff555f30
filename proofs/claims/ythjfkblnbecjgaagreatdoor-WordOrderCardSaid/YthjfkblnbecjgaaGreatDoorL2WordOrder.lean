/- The statement messuagelaw2.WordOrder of the seat: for every input the law returns true; the condition: errors.errorType is as the program lays it. -/
import Derived.Test.YthjfkblnbecjgaaGreatDoorL2B
set_option linter.unusedVariables false
open Go Go.Sx
namespace Go.Proofs.YthjfkblnbecjgaaGreatDoor
open Go.ChangeShapes Go.WideShapes Go.RowKit
set_option maxRecDepth 100000

theorem wordOrder_tree : (lawSpec 4 [.agg L2.ks5, .one (.i .i64), .one (.i .i64)]).exe Tryz.prog (L2.cfg2 Tryz.prog) [] 20 200 = .call 25 (L2.yes L2.f_messuagelaw2_begun).rel [] [] 0 0 (.letI (.rem (.v 5) (.c 4)) (.letI (.add (.v 7) (.c 4)) (.letI (.rem (.v 8) (.c 4)) (.letI (.add (.c 1) (.v 9)) (.letI (.rem (.v 6) (.c 4)) (.letI (.add (.v 11) (.c 4)) (.letI (.rem (.v 12) (.c 4)) (.letI (.add (.c 1) (.v 13)) (.letI (.mn (.v 10) (.v 14)) (.letI (.mx (.v 10) (.v 14)) (.letI (.cmp .geq (.v 0) (.c 1)) (.ite (.v 17) (.letI (.cmp .leq (.v 0) (.c 10)) (.ite (.v 18) (.letI (.cmp .eql (.v 0) (.c 1)) (.ite (.v 19) (.letI (.cmp .geq (.v 1) (.c 8)) (.ite (.v 20) (.done [] []) (.done [] []))) (.letI (.cmp .eql (.v 0) (.c 4)) (.ite (.v 20) (.letI (.cmp .geq (.v 1) (.c 8)) (.ite (.v 21) (.done [] []) (.done [] []))) (.letI (.cmp .eql (.v 0) (.c 5)) (.ite (.v 21) (.letI (.cmp .geq (.v 1) (.c 8)) (.ite (.v 22) (.done [] []) (.done [] []))) (.letI (.cmp .eql (.v 0) (.c 2)) (.ite (.v 22) (.letI (.cmp .geq (.v 1) (.c 8)) (.ite (.v 23) (.done [] []) (.letI (.cmp .geq (.v 2) (.c 8)) (.ite (.v 24) (.done [] []) (.letI (.cmp .lss (.v 3) (.c 1)) (.ite (.v 25) (.done [] []) (.letI (.cmp .gtr (.v 3) (.c 3)) (.ite (.v 26) (.done [] []) (.done [] []))))))))) (.letI (.cmp .eql (.v 0) (.c 3)) (.ite (.v 23) (.letI (.cmp .geq (.v 1) (.c 8)) (.ite (.v 24) (.done [] []) (.letI (.cmp .geq (.v 2) (.v 15)) (.ite (.v 25) (.letI (.cmp .geq (.v 2) (.v 16)) (.ite (.v 26) (.done [] []) (.letI (.cmp .geq (.v 3) (.c 8)) (.ite (.v 27) (.done [] []) (.letI (.cmp .lss (.v 4) (.c 1)) (.ite (.v 28) (.done [] []) (.letI (.cmp .gtr (.v 4) (.c 3)) (.ite (.v 29) (.done [] []) (.done [] []))))))))) (.letI (.cmp .geq (.v 3) (.c 8)) (.ite (.v 26) (.letI (.cmp .geq (.v 2) (.v 16)) (.ite (.v 27) (.done [] []) (.done [] []))) (.letI (.cmp .lss (.v 4) (.c 1)) (.ite (.v 27) (.letI (.cmp .geq (.v 2) (.v 16)) (.ite (.v 28) (.done [] []) (.done [] []))) (.letI (.cmp .gtr (.v 4) (.c 3)) (.ite (.v 28) (.letI (.cmp .geq (.v 2) (.v 16)) (.ite (.v 29) (.done [] []) (.done [] []))) (.letI (.cmp .geq (.v 2) (.v 16)) (.ite (.v 29) (.fail 180) (.done [] []))))))))))))) (.letI (.cmp .eql (.v 0) (.c 6)) (.ite (.v 24) (.letI (.cmp .geq (.v 1) (.c 8)) (.ite (.v 25) (.done [] []) (.letI (.cmp .geq (.v 2) (.c 8)) (.ite (.v 26) (.done [] []) (.letI (.cmp .lss (.v 3) (.c 1)) (.ite (.v 27) (.done [] []) (.letI (.cmp .gtr (.v 3) (.c 3)) (.ite (.v 28) (.done [] []) (.done [] []))))))))) (.letI (.cmp .eql (.v 0) (.c 7)) (.ite (.v 25) (.letI (.cmp .geq (.v 1) (.c 8)) (.ite (.v 26) (.done [] []) (.done [] []))) (.letI (.cmp .eql (.v 0) (.c 8)) (.ite (.v 26) (.letI (.cmp .geq (.v 1) (.c 8)) (.ite (.v 27) (.done [] []) (.letI (.cmp .lss (.v 2) (.c 1)) (.ite (.v 28) (.done [] []) (.letI (.cmp .gtr (.v 2) (.c 3)) (.ite (.v 29) (.done [] []) (.done [] []))))))) (.letI (.cmp .eql (.v 0) (.c 9)) (.ite (.v 27) (.letI (.cmp .geq (.v 1) (.c 8)) (.ite (.v 28) (.done [] []) (.letI (.cmp .geq (.v 2) (.c 16)) (.ite (.v 29) (.done [] []) (.letI (.cmp .geq (.v 3) (.c 1)) (.ite (.v 30) (.letI (.cmp .leq (.v 3) (.c 4)) (.letI (.not (.v 31)) (.ite (.v 32) (.done [] []) (.done [] [])))) (.done [] []))))))) (.done [] []))))))))))))))))))) (.letI (.cmp .geq (.v 0) (.c 20)) (.ite (.v 19) (.letI (.cmp .leq (.v 0) (.c 23)) (.ite (.v 20) (.letI (.cmp .eql (.v 0) (.c 20)) (.ite (.v 21) (.letI (.cmp .geq (.v 1) (.c 8)) (.ite (.v 22) (.done [] []) (.letI (.cmp .geq (.v 2) (.c 16)) (.ite (.v 23) (.done [] []) (.done [] []))))) (.letI (.cmp .eql (.v 0) (.c 21)) (.ite (.v 22) (.letI (.cmp .geq (.v 1) (.c 8)) (.ite (.v 23) (.done [] []) (.letI (.cmp .geq (.v 2) (.c 16)) (.ite (.v 24) (.done [] []) (.done [] []))))) (.letI (.cmp .eql (.v 0) (.c 23)) (.ite (.v 23) (.letI (.cmp .geq (.v 1) (.c 8)) (.ite (.v 24) (.done [] []) (.letI (.cmp .geq (.v 2) (.c 16)) (.ite (.v 25) (.done [] []) (.done [] []))))) (.letI (.cmp .geq (.v 1) (.c 8)) (.ite (.v 24) (.done [] []) (.letI (.cmp .geq (.v 2) (.c 16)) (.ite (.v 25) (.done [] []) (.done [] []))))))))))) (.done [] []))) (.done [] []))))) (.done [] []))))))))))))) := by kernel_rfl
set_option maxHeartbeats 4000000 in
theorem wordOrder_holds : ((lawSpec 4 [.agg L2.ks5, .one (.i .i64), .one (.i .i64)]).withPre fun _ => True).Holds Tryz.prog L2.ro := FSpec.holds (cfg := L2.cfg2 Tryz.prog) [] 20 200 cfg2_ok mixed (by
  intro is ls h1 h2 hp hr hl
  rw [exe_withPre, wordOrder_tree]
  obtain ⟨a, b, c, d, e, f, g, rfl⟩ := list7 h1
  simp [den_letI, den_ite, den_done, den_fail, IOp.den, cmpB, b2i, At.den, call_none, L2.yes, FSpec.withPre, lawSpec, PSt.add]
  omega)

theorem wordOrder_calls {H : Type} {enc : TypeId × Value → H} {W : World} {base : Nat} {args : Array Value} {ds : List (DataW H)} {p : List MemPlace} (hval : ∀ (j : Nat) t v, Tryz.f4.params[j]? = some t → args[j]? = some v → Value.okWide Tryz.prog W .any base t v)
    (hA : DataW.TrodAll enc Tryz.prog W 0 (fun _ => true) true Tryz.f4.params.toList args.toList ds p) (hL : laidMetH Tryz.prog laid1 W) : Calls Tryz.prog 4 args W fun e W' => e = .returned (.bool true) ∧ Go.Sx.Frame ⟨W, [], L2.ro⟩ W' := by
  rw [Tryz.params4] at hA hval
  obtain ⟨v0, v1, v2, d0, d1, d2, p0, p1, p2, rfl, rfl, rfl, h0, h1, h2⟩ := trodAll_three hA
  obtain ⟨e0, q0⟩ := par_flat (base := 0) (f := 9) (by first | exact agg26 | rw [und26]) flat26 (hval 0 26 v0 rfl rfl) h0
  obtain ⟨n1, q1⟩ := par_int (base := 0) und3 (hval 1 3 v1 rfl rfl) h1
  obtain ⟨n2, q2⟩ := par_int (base := 0) und3 (hval 2 3 v2 rfl rfl) h2
  exact law_calls (wordOrder_holds) Tryz.func4 (show Tryz.f4.body = some _ from rfl) (by kernel_rfl) (.cons q0 (.cons q1 (.cons q2 .none))) trivial (ro_of_laid hL)
set_option maxHeartbeats 1000000 in
theorem wordOrder_lifted (os : Os) (started : os.Started) (H : Type) (enc : TypeId × Value → H) :
    ReturnsInHanded {} Tryz.checked os 4 .any (fun w args => (Rows.wordOrderSpec.pre enc Tryz.prog Tryz.f4 [] false w args ∧ laidMetH Tryz.prog laid1 w) ∧ sizedMet enc Tryz.prog Tryz.f4 (OpenSpec.ofChange Rows.wordOrderSpec) false w args)
      (Rows.wordOrderSpec.post enc Tryz.prog Tryz.f4 false true false false) := by
  refine returnsInHanded_of_change_and (C := Tryz.checked) (X := fun w _ => laidMetH Tryz.prog laid1 w) (fun _ _ _ hh h => h.of_heap hh) Tryz.own started (by kernel_rfl) Tryz.func4
    (ChangeSpec.witness_at (enc := enc) (C := Tryz.checked) (os := os) (X := fun w _ => laidMetH Tryz.prog laid1 w) false (laidWorld os) #[.agg #[.int .u64 0, .int .u64 0, .int .u64 0, .int .u64 0, .int .u64 0], .int .i64 0, .int .i64 0] 8 rfl (by kernel_rfl) (by kernel_rfl) (by kernel_rfl) (by kernel_rfl) (by kernel_rfl) (laidWorld_met os _)) ?_
  intro W base args ds gs before hval0 hW _ _ hL _
  have hval : ∀ (j : Nat) t v, Tryz.f4.params[j]? = some t → args[j]? = some v → Value.okWide Tryz.prog W .any base t v := hval0
  have hW' := hW
  obtain ⟨p, q, hA0, hV0, rfl, hfz, hnd⟩ := hW
  have hcall := wordOrder_calls (enc := enc) hval hA0 hL
  refine Calls.mono hcall ?_
  rintro e W' ⟨rfl, hfr⟩
  exact ⟨_, rfl, post_kept Tryz.laidOut (by kernel_rfl) rfl rfl und4 hW' hfr (by
    have hg : gs = [] := by cases gs with | nil => rfl | cons g r => exact absurd hV0 (by intro h; cases h)
    subst hg
    have hA1 : DataW.TrodAll enc Tryz.prog W 0 (fun _ => true) true Tryz.f4.params.toList args.toList ds p := hA0
    rw [Tryz.params4] at hA1
    obtain ⟨v0, v1, v2, d0, d1, d2, p0, p1, p2, ea, rfl, ec, h0, h1, h2⟩ := trodAll_three hA1
    rfl)⟩

theorem wordOrder_row : Rows.WordOrderSaid :=
  OpenClaim.holds_of_wide 4 Tryz.f4 rfl rfl rfl rfl rfl rfl rfl ⟨rfl, rfl, rfl, rfl, rfl⟩ rfl rfl rfl rfl rfl (by kernel_rfl) Tryz.func4 (restFacts.2 _ _ _ _ _ Tryz.mayEnter Tryz.liftsFinal Tryz.make (by kernel_rfl))
    (of_decide_eq_true (by kernel_rfl)) (by unfold Func.isWrapper; rw [if_neg (of_decide_eq_false (by kernel_rfl))]; exact ⟨rfl, rfl⟩)
    (fun os started H enc _ => wordOrder_lifted os started H enc)
theorem wordOrder_card : Rows.WordOrderCardSaid :=
  Claim7.holds_tied_plain_at .later [] [.handle] true (true, "8c0441bbc8609432f713c1c89f5af20e6af72254f1482b9eed96a33066278ab6") true
    wordOrder_row (fun _ h => by cases h) (by kernel_rfl) (fun _ h => by cases h) wordOrder_row_tie rfl ⟨rfl, rfl⟩ Tryz.mainIs rfl
    (fun f fn hf hfn => by
      obtain rfl : f = 4 := Option.some.inj ((show Tryz.prog.funcNamed "messuage/messuagelaw2.WordOrder" = some 4 by kernel_rfl).symm.trans hf) |>.symm
      obtain rfl : fn = Tryz.f4 := (Option.some.inj (Tryz.func4.symm.trans hfn)).symm
      exact ⟨by kernel_rfl, fun j t ht => by
        rw [Tryz.params4] at ht
        rcases j with _ | _ | _ | j
        · obtain rfl : 26 = t := by simpa using ht
          exact (show Tryz.prog.wantsStandIn 26 = false by kernel_rfl)
        · obtain rfl : 3 = t := by simpa using ht
          exact (show Tryz.prog.wantsStandIn 3 = false by kernel_rfl)
        · obtain rfl : 3 = t := by simpa using ht
          exact (show Tryz.prog.wantsStandIn 3 = false by kernel_rfl)
        · simp at ht⟩)
    (by kernel_rfl)
#print axioms wordOrder_card
end Go.Proofs.YthjfkblnbecjgaaGreatDoor
