/- The statement messuagelaw1.TrapOther of the seat: for every input the law returns true; the condition: errors.errorType is as the program lays it. -/
import Derived.Test.YtgkinefofnlnlaaDoorL1D
set_option linter.unusedVariables false
open Go Go.Sx
namespace Go.Proofs.YtgkinefofnlnlaaDoor
open Go.ChangeShapes Go.WideShapes Go.RowKit
set_option maxRecDepth 100000

set_option maxHeartbeats 1000000 in
theorem trapOther_lifted (os : Os) (started : os.Started) (H : Type) (enc : TypeId × Value → H) :
    ReturnsInHanded {} Tryd.checked os 10 .any (fun w args => (Rows.trapOtherSpec.pre enc Tryd.prog Tryd.f10 [] false w args ∧ laidMetH Tryd.prog laid1 w) ∧ sizedMet enc Tryd.prog Tryd.f10 (OpenSpec.ofChange Rows.trapOtherSpec) false w args)
      (Rows.trapOtherSpec.post enc Tryd.prog Tryd.f10 false true false false) := by
  refine returnsInHanded_of_change_and (C := Tryd.checked) (X := fun w _ => laidMetH Tryd.prog laid1 w) (fun _ _ _ hh h => h.of_heap hh) Tryd.own started (by kernel_rfl) Tryd.func10
    (ChangeSpec.witness_at (enc := enc) (C := Tryd.checked) (os := os) (X := fun w _ => laidMetH Tryd.prog laid1 w) false (laidWorld os) #[.int .i64 0, .int .i64 0, .agg #[.int .u64 0, .int .u64 0, .int .u64 0, .int .u64 0, .int .u64 0]] 8 rfl (by kernel_rfl) (by kernel_rfl) (by kernel_rfl) (by kernel_rfl) (by kernel_rfl) (laidWorld_met os _)) ?_
  intro W base args ds gs before hval0 hW _ _ hL _
  have hval : ∀ (j : Nat) t v, Tryd.f10.params[j]? = some t → args[j]? = some v → Value.okWide Tryd.prog W .any base t v := hval0
  have hW' := hW
  obtain ⟨p, q, hA0, hV0, rfl, hfz, hnd⟩ := hW
  have hA : DataW.TrodAll enc Tryd.prog W 0 (fun _ => true) true Tryd.f10.params.toList args.toList ds p := hA0
  rw [Tryd.params10] at hA hval
  obtain ⟨v0, v1, v2, d0, d1, d2, p0, p1, p2, rfl, rfl, rfl, h0, h1, h2⟩ := trodAll_three hA
  obtain ⟨x0, rfl, -, -, w0⟩ := open_int und3 (hval 0 3 v0 rfl rfl) h0
  obtain ⟨x1, rfl, -, -, w1⟩ := open_int und3 (hval 1 3 v1 rfl rfl) h1
  obtain ⟨c, rfl, hlen, wc⟩ := open_intArr und25 und23 cells23 cells25 (hval 2 25 v2 rfl rfl) h2
  obtain ⟨c0, c1, c2, c3, c4, rfl⟩ := five hlen
  have r0 := wf_range w0
  have r1 := wf_range w1
  have q0 := wf_range (wc c0 (by simp))
  have q1 := wf_range (wc c1 (by simp))
  have q2 := wf_range (wc c2 (by simp))
  have q3 := wf_range (wc c3 (by simp))
  have q4 := wf_range (wc c4 (by simp))
  have hcall := FSpec.law (W := W) (is := [x0, x1, c0, c1, c2, c3, c4]) other_holds Tryd.func10 (show Tryd.f10.body = some _ from rfl) (by kernel_rfl) rfl rfl rfl rfl rfl rfl
    (by
      intro r hr
      simp only [L1.lawC, List.range, List.range.loop, List.map_cons, List.map_nil, List.cons_append, List.nil_append, List.mem_cons, List.not_mem_nil, or_false] at hr
      rcases hr with rfl | rfl | rfl | rfl | rfl | rfl | rfl <;> simp [L1.lawC] <;> assumption) rfl trivial (ro_of_laid hL)
  have hargs : (SV.dens ⟨[x0, x1, c0, c1, c2, c3, c4], [], []⟩ (L1.lawC 10 2).args).toArray = #[.int .i64 x0, .int .i64 x1, Value.agg ([c0, c1, c2, c3, c4].map (Value.int .u64)).toArray] := by
    simp [L1.lawC, List.range, List.range.loop, SV.dens, SV.den, At.den]
  rw [hargs] at hcall
  show Calls Tryd.prog 10 _ W _
  refine Calls.mono hcall ?_
  rintro e W' ⟨rfl, hfr⟩
  exact ⟨_, rfl, post_kept Tryd.laidOut (by kernel_rfl) rfl rfl und4 hW' hfr (by
    have hg : gs = [] := by cases gs with | nil => rfl | cons g r => exact absurd hV0 (by intro h; cases h)
    subst hg; rfl)⟩

theorem trapOther_row : Rows.TrapOtherSaid :=
  OpenClaim.holds_of_wide 10 Tryd.f10 rfl rfl rfl rfl rfl rfl rfl ⟨rfl, rfl, rfl, rfl, rfl⟩ rfl rfl rfl rfl rfl (by kernel_rfl) Tryd.func10 (by kernel_rfl)
    (of_decide_eq_true (by kernel_rfl)) (by unfold Func.isWrapper; rw [if_neg (of_decide_eq_false (by kernel_rfl))]; exact ⟨rfl, rfl⟩)
    (fun os started H enc _ => trapOther_lifted os started H enc)
theorem trapOther_card : Rows.TrapOtherCardSaid :=
  Claim7.holds_tied_plain_at .later [] [.handle] true (true, "7638421efab938d917ef4a33a3f13491bb579d54ec70411b972aa9fe9f152a7b") true
    trapOther_row (fun _ h => by cases h) (by kernel_rfl) (fun _ h => by cases h) trapOther_row_tie rfl ⟨rfl, rfl⟩ (by kernel_rfl) rfl
    (fun f fn hf hfn => by
      obtain rfl : f = 10 := Option.some.inj ((show Tryd.prog.funcNamed "messuage/messuagelaw1.TrapOther" = some 10 by kernel_rfl).symm.trans hf) |>.symm
      obtain rfl : fn = Tryd.f10 := (Option.some.inj (Tryd.func10.symm.trans hfn)).symm
      exact ⟨by kernel_rfl, fun j t ht => by
        rw [Tryd.params10] at ht
        rcases j with _ | _ | _ | j
        · obtain rfl : 3 = t := by simpa using ht
          exact (show Tryd.prog.wantsStandIn 3 = false by kernel_rfl)
        · obtain rfl : 3 = t := by simpa using ht
          exact (show Tryd.prog.wantsStandIn 3 = false by kernel_rfl)
        · obtain rfl : 25 = t := by simpa using ht
          exact (show Tryd.prog.wantsStandIn 25 = false by kernel_rfl)
        · simp at ht⟩)
    (by kernel_rfl)
#print axioms trapOther_card
end Go.Proofs.YtgkinefofnlnlaaDoor
