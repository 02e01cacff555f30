/- The statement messuagelaw1.TrapOuter of the seat: for every input the law returns true; the condition: errors.errorType is as the program lays it. -/
import Derived.Test.YtgkinefofnlnlaaDoorVL1OutT
set_option linter.unusedVariables false
open Go Go.Sx
namespace Go.Proofs.YtgkinefofnlnlaaDoor
open Go.ChangeShapes Go.WideShapes Go.RowKit
set_option maxRecDepth 100000
set_option maxHeartbeats 4000000 in
theorem trapOuter_holds_0 : (((lawSpec 8 [.one (.i .i64), .slc [.i .i64], .agg k5]).withPre fun _ => True).withRng 1 0 6).Holds Tryd.prog L1.ro := FSpec.holds (cfg := L1.cfgF Tryd.prog) [] 20 200 cfgF_ok mixed (by
  intro is ls h1 h2 hp hr hl
  rw [exe_withPre_rng, trapOuter_tree_0]
  have hrng := hr (1, 0, 6) (List.mem_cons_self ..)
  clear hr hl
  obtain ⟨a, b, c, d, e, f, g, i, rfl⟩ := eight h1
  have hc : True ∧ slcPre (oneKind [.i .i64]) 1 1 0 [a, b, c, d, e, f, g, i] ls := hp.1
  obtain ⟨-, c1, c2, -⟩ := hc
  simp at c1 c2
  simp at hrng
  clear hp h1 h2
  simp [den_letI, den_ite, den_need, den_done, IOp.den, call_begun, call_code, call_first, cmpB, b2i, At.den, FSpec.withPre, FSpec.withRng, lawSpec, PSt.add]
  try omega)
set_option maxHeartbeats 4000000 in
theorem trapOuter_holds_1 : (((lawSpec 8 [.one (.i .i64), .slc [.i .i64], .agg k5]).withPre fun _ => True).withRng 1 7 9223372036854775807).Holds Tryd.prog L1.ro := FSpec.holds (cfg := L1.cfgF Tryd.prog) [] 20 200 cfgF_ok mixed (by
  intro is ls h1 h2 hp hr hl
  rw [exe_withPre_rng, trapOuter_tree_1]
  have hrng := hr (1, 7, 9223372036854775807) (List.mem_cons_self ..)
  clear hr hl
  obtain ⟨a, b, c, d, e, f, g, i, rfl⟩ := eight h1
  have hc : True ∧ slcPre (oneKind [.i .i64]) 1 1 0 [a, b, c, d, e, f, g, i] ls := hp.1
  obtain ⟨-, c1, c2, -⟩ := hc
  simp at c1 c2
  simp at hrng
  clear hp h1 h2
  simp [den_letI, den_ite, den_need, den_done, IOp.den, call_begun, call_code, call_first, cmpB, b2i, At.den, FSpec.withPre, FSpec.withRng, lawSpec, PSt.add]
  try omega)
theorem trapOuter_holds : ((lawSpec 8 [.one (.i .i64), .slc [.i .i64], .agg k5]).withPre fun _ => True).Holds Tryd.prog L1.ro := holds_split 1 (by decide) fun x hx => by
  have h0 := hx (1, 0, 9223372036854775807) (by simp [FSpec.withPre, lawSpec, PSt.add]) rfl
  simp only at h0
  rcases Int.lt_or_le 6 x with g0 | g0
  rotate_left
  · exact ⟨0, 6, by omega, g0, trapOuter_holds_0⟩
  exact ⟨7, 9223372036854775807, by omega, h0.2, trapOuter_holds_1⟩
theorem trapOuter_tree_n : (lawSpec 8 [.one (.i .i64), .nil, .agg k5]).exe Tryd.prog (L1.cfgF Tryd.prog) [] 20 200 = .call 11 (L1.begun).rel [] [] 0 0 (.call 12 (L1.code).rel [.v 0] [] 1 0 (.call 16 (L1.first).rel [] [] 0 0 (.call 16 (L1.first).rel [] [] 0 0 (.done [] [])))) := by kernel_rfl
theorem trapOuter_holds_n : ((lawSpec 8 [.one (.i .i64), .nil, .agg k5]).withPre fun _ => True).Holds Tryd.prog L1.ro := FSpec.holds (cfg := L1.cfgF Tryd.prog) [] 20 200 cfgF_ok mixed (by
  intro is ls h1 h2 hp hr hl
  rw [exe_withPre, trapOuter_tree_n]
  simp [den_done, call_begun, call_code, call_first, FSpec.withPre, lawSpec, PSt.add])

theorem trapOuter_calls {H : Type} {enc : TypeId × Value → H} {W : World} {base : Nat} {args : Array Value} {ds : List (DataW H)} {p : List MemPlace} (hval : ∀ (j : Nat) t v, Tryd.f8.params[j]? = some t → args[j]? = some v → Value.okWide Tryd.prog W .any base t v)
    (hA : DataW.TrodAll enc Tryd.prog W 0 (fun _ => true) true Tryd.f8.params.toList args.toList ds p) (hL : laidMetH Tryd.prog laid1 W) : Calls Tryd.prog 8 args W fun e W' => e = .returned (.bool true) ∧ Go.Sx.Frame ⟨W, [], L1.ro⟩ W' := by
  rw [Tryd.params8] at hA hval
  obtain ⟨v0, v1, v2, d0, d1, d2, p0, p1, p2, rfl, rfl, rfl, h0, h1, h2⟩ := trodAll_three hA
  obtain ⟨n0, q0⟩ := par_int (base := 0) und3 (hval 0 3 v0 rfl rfl) h0
  obtain ⟨e2, q2⟩ := par_flat (base := 0) (f := 9) (by rw [und25]) flat25 (hval 2 25 v2 rfl rfl) h2
  rcases par_flats (base := 0) (f := 9) und22 flat3 cells3 (by decide) (hval 1 22 v1 rfl rfl) h1 with q1 | ⟨e1, q1⟩
  · exact law_calls (trapOuter_holds_n) Tryd.func8 (show Tryd.f8.body = some _ from rfl) (by kernel_rfl) (.cons q0 (.cons q1 (.cons q2 .none))) trivial (ro_of_laid hL)
  · exact law_calls (trapOuter_holds) Tryd.func8 (show Tryd.f8.body = some _ from rfl) (by kernel_rfl) (.cons q0 (.cons q1 (.cons q2 .none))) trivial (ro_of_laid hL)
set_option maxHeartbeats 1000000 in
theorem trapOuter_lifted (os : Os) (started : os.Started) (H : Type) (enc : TypeId × Value → H) :
    ReturnsInHanded {} Tryd.checked os 8 .any (fun w args => (Rows.trapOuterSpec.pre enc Tryd.prog Tryd.f8 [] false w args ∧ laidMetH Tryd.prog laid1 w) ∧ sizedMet enc Tryd.prog Tryd.f8 (OpenSpec.ofChange Rows.trapOuterSpec) false w args)
      (Rows.trapOuterSpec.post enc Tryd.prog Tryd.f8 false true false false) := by
  refine returnsInHanded_of_change_and (C := Tryd.checked) (X := fun w _ => laidMetH Tryd.prog laid1 w) (fun _ _ _ hh h => h.of_heap hh) Tryd.own started (by kernel_rfl) Tryd.func8
    (ChangeSpec.witness_at (enc := enc) (C := Tryd.checked) (os := os) (X := fun w _ => laidMetH Tryd.prog laid1 w) false (laidWorld os) #[.int .i64 0, .slice none 0 0, .agg #[.int .u64 0, .int .u64 0, .int .u64 0, .int .u64 0, .int .u64 0]] 8 rfl (by kernel_rfl) (by kernel_rfl) (by kernel_rfl) (by kernel_rfl) (by kernel_rfl) (laidWorld_met os _)) ?_
  intro W base args ds gs before hval0 hW _ _ hL _
  have hval : ∀ (j : Nat) t v, Tryd.f8.params[j]? = some t → args[j]? = some v → Value.okWide Tryd.prog W .any base t v := hval0
  have hW' := hW
  obtain ⟨p, q, hA0, hV0, rfl, hfz, hnd⟩ := hW
  have hcall := trapOuter_calls (enc := enc) hval hA0 hL
  refine Calls.mono hcall ?_
  rintro e W' ⟨rfl, hfr⟩
  exact ⟨_, rfl, post_kept Tryd.laidOut (by kernel_rfl) rfl rfl und4 hW' hfr (by
    have hg : gs = [] := by cases gs with | nil => rfl | cons g r => exact absurd hV0 (by intro h; cases h)
    subst hg
    have hA1 : DataW.TrodAll enc Tryd.prog W 0 (fun _ => true) true Tryd.f8.params.toList args.toList ds p := hA0
    rw [Tryd.params8] at hA1
    obtain ⟨v0, v1, v2, d0, d1, d2, p0, p1, p2, ea, rfl, ec, h0, h1, h2⟩ := trodAll_three hA1
    rfl)⟩

theorem trapOuter_row : Rows.TrapOuterSaid :=
  OpenClaim.holds_of_wide 8 Tryd.f8 rfl rfl rfl rfl rfl rfl rfl ⟨rfl, rfl, rfl, rfl, rfl⟩ rfl rfl rfl rfl rfl (by kernel_rfl) Tryd.func8 (by kernel_rfl)
    (of_decide_eq_true (by kernel_rfl)) (by unfold Func.isWrapper; rw [if_neg (of_decide_eq_false (by kernel_rfl))]; exact ⟨rfl, rfl⟩)
    (fun os started H enc _ => trapOuter_lifted os started H enc)
theorem trapOuter_card : Rows.TrapOuterCardSaid :=
  Claim7.holds_tied_plain_at .later [] [.handle] true (true, "7638421efab938d917ef4a33a3f13491bb579d54ec70411b972aa9fe9f152a7b") true
    trapOuter_row (fun _ h => by cases h) (by kernel_rfl) (fun _ h => by cases h) trapOuter_row_tie rfl ⟨rfl, rfl⟩ (by kernel_rfl) rfl
    (fun f fn hf hfn => by
      obtain rfl : f = 8 := Option.some.inj ((show Tryd.prog.funcNamed "messuage/messuagelaw1.TrapOuter" = some 8 by kernel_rfl).symm.trans hf) |>.symm
      obtain rfl : fn = Tryd.f8 := (Option.some.inj (Tryd.func8.symm.trans hfn)).symm
      exact ⟨by kernel_rfl, fun j t ht => by
        rw [Tryd.params8] at ht
        rcases j with _ | _ | _ | j
        · obtain rfl : 3 = t := by simpa using ht
          exact (show Tryd.prog.wantsStandIn 3 = false by kernel_rfl)
        · obtain rfl : 22 = t := by simpa using ht
          exact (show Tryd.prog.wantsStandIn 22 = false by kernel_rfl)
        · obtain rfl : 25 = t := by simpa using ht
          exact (show Tryd.prog.wantsStandIn 25 = false by kernel_rfl)
        · simp at ht⟩)
    (by kernel_rfl)
#print axioms trapOuter_card
end Go.Proofs.YtgkinefofnlnlaaDoor
