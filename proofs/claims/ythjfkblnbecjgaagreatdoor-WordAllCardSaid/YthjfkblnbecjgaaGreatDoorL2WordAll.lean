/- The statement messuagelaw2.WordAll of the seat: for every input the law returns true; the condition: errors.errorType is as the program lays it. -/
import Derived.Test.YthjfkblnbecjgaaGreatDoorL2Kw
import Derived.Test.YthjfkblnbecjgaaGreatDoorL2Kg
import Derived.Test.YthjfkblnbecjgaaGreatDoorSxM7
import Derived.Test.YthjfkblnbecjgaaGreatDoorL2WordAllA
import Derived.Test.YthjfkblnbecjgaaGreatDoorL2WordAllB
import Derived.Test.YthjfkblnbecjgaaGreatDoorL2WordAllC
import Derived.Test.YthjfkblnbecjgaaGreatDoorL2WordAllD
import Derived.Test.YthjfkblnbecjgaaGreatDoorL2WordAllE
import Derived.Test.YthjfkblnbecjgaaGreatDoorL2WordAllF
set_option linter.unusedVariables false
set_option linter.unusedSimpArgs false
open Go Go.Sx
namespace Go.Proofs.YthjfkblnbecjgaaGreatDoor
open Go.ChangeShapes Go.WideShapes Go.RowKit
set_option maxRecDepth 100000
theorem wordAll_holds0 : (lawSpec 8 [.agg L2.ks5, .one (.i .i64), .one (.i .i64), .one (.i .i64)]).Holds Tryz.prog L2.ro := holds_split 6 (by decide) (fun x hx => by
  have hx : ((-9223372036854775808) : Int) ≤ x ∧ x ≤ ((9223372036854775807) : Int) := hx (6, -9223372036854775808, 9223372036854775807) (by simp [lawSpec, PSt.add, CK.lo, CK.hi, IntKind.min, IntKind.max, IntKind.bits, IntKind.signed]) rfl
  by_cases h0 : x ≤ (0)
  · exact ⟨(-9223372036854775808), (0), by omega, by omega, holds_split 1 (by decide) (fun x hx => by
    have hx : ((0) : Int) ≤ x ∧ x ≤ ((18446744073709551615) : Int) := hx (1, 0, 18446744073709551615) (by simp [lawSpec, PSt.add, FSpec.withRng, CK.lo, CK.hi, IntKind.min, IntKind.max, IntKind.bits, IntKind.signed]) rfl
    by_cases h0 : x ≤ (0)
    · exact ⟨(0), (0), by omega, by omega, wordAll_part_aa0⟩
    by_cases h1 : x ≤ (3)
    · exact ⟨(1), (3), by omega, by omega, wordAll_part_ab0⟩
    exact ⟨(4), (18446744073709551615), by omega, by omega, wordAll_part_ac0⟩)⟩
  by_cases h1 : x ≤ (1)
  · exact ⟨(1), (1), by omega, by omega, holds_split 1 (by decide) (fun x hx => by
    have hx : ((0) : Int) ≤ x ∧ x ≤ ((18446744073709551615) : Int) := hx (1, 0, 18446744073709551615) (by simp [lawSpec, PSt.add, FSpec.withRng, CK.lo, CK.hi, IntKind.min, IntKind.max, IntKind.bits, IntKind.signed]) rfl
    by_cases h0 : x ≤ (0)
    · exact ⟨(0), (0), by omega, by omega, wordAll_part_ba0⟩
    by_cases h1 : x ≤ (3)
    · exact ⟨(1), (3), by omega, by omega, wordAll_part_bb0⟩
    exact ⟨(4), (18446744073709551615), by omega, by omega, wordAll_part_bc0⟩)⟩
  by_cases h2 : x ≤ (2)
  · exact ⟨(2), (2), by omega, by omega, holds_split 1 (by decide) (fun x hx => by
    have hx : ((0) : Int) ≤ x ∧ x ≤ ((18446744073709551615) : Int) := hx (1, 0, 18446744073709551615) (by simp [lawSpec, PSt.add, FSpec.withRng, CK.lo, CK.hi, IntKind.min, IntKind.max, IntKind.bits, IntKind.signed]) rfl
    by_cases h0 : x ≤ (0)
    · exact ⟨(0), (0), by omega, by omega, wordAll_part_ca0⟩
    by_cases h1 : x ≤ (3)
    · exact ⟨(1), (3), by omega, by omega, wordAll_part_cb0⟩
    exact ⟨(4), (18446744073709551615), by omega, by omega, wordAll_part_cc0⟩)⟩
  by_cases h3 : x ≤ (3)
  · exact ⟨(3), (3), by omega, by omega, holds_split 1 (by decide) (fun x hx => by
    have hx : ((0) : Int) ≤ x ∧ x ≤ ((18446744073709551615) : Int) := hx (1, 0, 18446744073709551615) (by simp [lawSpec, PSt.add, FSpec.withRng, CK.lo, CK.hi, IntKind.min, IntKind.max, IntKind.bits, IntKind.signed]) rfl
    by_cases h0 : x ≤ (0)
    · exact ⟨(0), (0), by omega, by omega, wordAll_part_da0⟩
    by_cases h1 : x ≤ (3)
    · exact ⟨(1), (3), by omega, by omega, wordAll_part_db0⟩
    exact ⟨(4), (18446744073709551615), by omega, by omega, wordAll_part_dc0⟩)⟩
  by_cases h4 : x ≤ (4)
  · exact ⟨(4), (4), by omega, by omega, holds_split 1 (by decide) (fun x hx => by
    have hx : ((0) : Int) ≤ x ∧ x ≤ ((18446744073709551615) : Int) := hx (1, 0, 18446744073709551615) (by simp [lawSpec, PSt.add, FSpec.withRng, CK.lo, CK.hi, IntKind.min, IntKind.max, IntKind.bits, IntKind.signed]) rfl
    by_cases h0 : x ≤ (0)
    · exact ⟨(0), (0), by omega, by omega, wordAll_part_ea0⟩
    by_cases h1 : x ≤ (3)
    · exact ⟨(1), (3), by omega, by omega, wordAll_part_eb0⟩
    exact ⟨(4), (18446744073709551615), by omega, by omega, wordAll_part_ec0⟩)⟩
  exact ⟨(5), (9223372036854775807), by omega, by omega, holds_split 1 (by decide) (fun x hx => by
    have hx : ((0) : Int) ≤ x ∧ x ≤ ((18446744073709551615) : Int) := hx (1, 0, 18446744073709551615) (by simp [lawSpec, PSt.add, FSpec.withRng, CK.lo, CK.hi, IntKind.min, IntKind.max, IntKind.bits, IntKind.signed]) rfl
    by_cases h0 : x ≤ (0)
    · exact ⟨(0), (0), by omega, by omega, wordAll_part_fa0⟩
    by_cases h1 : x ≤ (3)
    · exact ⟨(1), (3), by omega, by omega, wordAll_part_fb0⟩
    exact ⟨(4), (18446744073709551615), by omega, by omega, wordAll_part_fc0⟩)⟩)
theorem wordAll_holds : ((lawSpec 8 [.agg L2.ks5, .one (.i .i64), .one (.i .i64), .one (.i .i64)]).withPre fun _ => True).Holds Tryz.prog L2.ro := holds_withPre _ wordAll_holds0

theorem wordAll_calls {H : Type} {enc : TypeId × Value → H} {W : World} {base : Nat} {args : Array Value} {ds : List (DataW H)} {p : List MemPlace} (hval : ∀ (j : Nat) t v, Tryz.f8.params[j]? = some t → args[j]? = some v → Value.okWide Tryz.prog W .any base t v)
    (hA : DataW.TrodAll enc Tryz.prog W 0 (fun _ => true) true Tryz.f8.params.toList args.toList ds p) (hL : laidMetH Tryz.prog laid1 W) : Calls Tryz.prog 8 args W fun e W' => e = .returned (.bool true) ∧ Go.Sx.Frame ⟨W, [], L2.ro⟩ W' := by
  rw [Tryz.params8] at hA hval
  obtain ⟨v0, v1, v2, v3, d0, d1, d2, d3, p0, p1, p2, p3, rfl, rfl, rfl, h0, h1, h2, h3⟩ := trodAll_four hA
  obtain ⟨e0, q0⟩ := par_flat (base := 0) (f := 9) (by first | exact agg26 | rw [und26]) flat26 (hval 0 26 v0 rfl rfl) h0
  obtain ⟨n1, q1⟩ := par_int (base := 0) und3 (hval 1 3 v1 rfl rfl) h1
  obtain ⟨n2, q2⟩ := par_int (base := 0) und3 (hval 2 3 v2 rfl rfl) h2
  obtain ⟨n3, q3⟩ := par_int (base := 0) und3 (hval 3 3 v3 rfl rfl) h3
  exact law_calls (wordAll_holds) Tryz.func8 (show Tryz.f8.body = some _ from rfl) (by kernel_rfl) (.cons q0 (.cons q1 (.cons q2 (.cons q3 .none)))) trivial (ro_of_laid hL)
set_option maxHeartbeats 1000000 in
theorem wordAll_lifted (os : Os) (started : os.Started) (H : Type) (enc : TypeId × Value → H) :
    ReturnsInHanded {} Tryz.checked os 8 .any (fun w args => (Rows.wordAllSpec.pre enc Tryz.prog Tryz.f8 [] false w args ∧ laidMetH Tryz.prog laid1 w) ∧ sizedMet enc Tryz.prog Tryz.f8 (OpenSpec.ofChange Rows.wordAllSpec) false w args)
      (Rows.wordAllSpec.post enc Tryz.prog Tryz.f8 false true false false) := by
  refine returnsInHanded_of_change_and (C := Tryz.checked) (X := fun w _ => laidMetH Tryz.prog laid1 w) (fun _ _ _ hh h => h.of_heap hh) Tryz.own started (by kernel_rfl) Tryz.func8
    (ChangeSpec.witness_at (enc := enc) (C := Tryz.checked) (os := os) (X := fun w _ => laidMetH Tryz.prog laid1 w) false (laidWorld os) #[.agg #[.int .u64 0, .int .u64 0, .int .u64 0, .int .u64 0, .int .u64 0], .int .i64 0, .int .i64 0, .int .i64 0] 8 rfl (by kernel_rfl) (by kernel_rfl) (by kernel_rfl) (by kernel_rfl) (by kernel_rfl) (laidWorld_met os _)) ?_
  intro W base args ds gs before hval0 hW _ _ hL _
  have hval : ∀ (j : Nat) t v, Tryz.f8.params[j]? = some t → args[j]? = some v → Value.okWide Tryz.prog W .any base t v := hval0
  have hW' := hW
  obtain ⟨p, q, hA0, hV0, rfl, hfz, hnd⟩ := hW
  have hcall := wordAll_calls (enc := enc) hval hA0 hL
  refine Calls.mono hcall ?_
  rintro e W' ⟨rfl, hfr⟩
  exact ⟨_, rfl, post_kept Tryz.laidOut (by kernel_rfl) rfl rfl und4 hW' hfr (by
    have hg : gs = [] := by cases gs with | nil => rfl | cons g r => exact absurd hV0 (by intro h; cases h)
    subst hg
    have hA1 : DataW.TrodAll enc Tryz.prog W 0 (fun _ => true) true Tryz.f8.params.toList args.toList ds p := hA0
    rw [Tryz.params8] at hA1
    obtain ⟨v0, v1, v2, v3, d0, d1, d2, d3, p0, p1, p2, p3, ea, rfl, ec, h0, h1, h2, h3⟩ := trodAll_four hA1
    rfl)⟩

theorem wordAll_row : Rows.WordAllSaid :=
  OpenClaim.holds_of_wide 8 Tryz.f8 rfl rfl rfl rfl rfl rfl rfl ⟨rfl, rfl, rfl, rfl, rfl⟩ rfl rfl rfl rfl rfl (by kernel_rfl) Tryz.func8 (restFacts.2 _ _ _ _ _ Tryz.mayEnter Tryz.liftsFinal Tryz.make (by kernel_rfl))
    (of_decide_eq_true (by kernel_rfl)) (by unfold Func.isWrapper; rw [if_neg (of_decide_eq_false (by kernel_rfl))]; exact ⟨rfl, rfl⟩)
    (fun os started H enc _ => wordAll_lifted os started H enc)
theorem wordAll_card : Rows.WordAllCardSaid :=
  Claim7.holds_tied_plain_at .later [] [.handle] true (true, "8c0441bbc8609432f713c1c89f5af20e6af72254f1482b9eed96a33066278ab6") true
    wordAll_row (fun _ h => by cases h) (by kernel_rfl) (fun _ h => by cases h) wordAll_row_tie rfl ⟨rfl, rfl⟩ Tryz.mainIs rfl
    (fun f fn hf hfn => by
      obtain rfl : f = 8 := Option.some.inj ((show Tryz.prog.funcNamed "messuage/messuagelaw2.WordAll" = some 8 by kernel_rfl).symm.trans hf) |>.symm
      obtain rfl : fn = Tryz.f8 := (Option.some.inj (Tryz.func8.symm.trans hfn)).symm
      exact ⟨by kernel_rfl, fun j t ht => by
        rw [Tryz.params8] at ht
        rcases j with _ | _ | _ | _ | j
        · obtain rfl : 26 = t := by simpa using ht
          exact (show Tryz.prog.wantsStandIn 26 = false by kernel_rfl)
        · obtain rfl : 3 = t := by simpa using ht
          exact (show Tryz.prog.wantsStandIn 3 = false by kernel_rfl)
        · obtain rfl : 3 = t := by simpa using ht
          exact (show Tryz.prog.wantsStandIn 3 = false by kernel_rfl)
        · obtain rfl : 3 = t := by simpa using ht
          exact (show Tryz.prog.wantsStandIn 3 = false by kernel_rfl)
        · simp at ht⟩)
    (by kernel_rfl)
#print axioms wordAll_card
end Go.Proofs.YthjfkblnbecjgaaGreatDoor
