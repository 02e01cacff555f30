/- The statement messuagelaw2.PteEach of the seat: for every input the law returns true; the condition: errors.errorType is as the program lays it. -/
import Derived.Test.YthjfkblnbecjgaaGreatDoorL2Kp
set_option linter.unusedVariables false
open Go Go.Sx
namespace Go.Proofs.YthjfkblnbecjgaaGreatDoor
open Go.ChangeShapes Go.WideShapes Go.RowKit
set_option maxRecDepth 100000

noncomputable def PteEach_t : Tree := .loop [.c (0)] [] (.letI (.cmp .leq (.v 0) (.c 30)) (.ite (.v 1) (.loop [.c (-1)] [] (.letI (.cmp .leq (.v 2) (.c 4)) (.ite (.v 3) (.call 58 (L2.lets_ 58).rel [.v 2, .v 0] [] 1 0 (.call 59 (L2.lets_ 59).rel [.v 2, .v 0] [] 1 0 (.letI (.not (.v 4)) (.letI (.not (.v 5)) (.letI (.cmp .neq (.v 6) (.v 7)) (.ite (.v 8) (.exit (.exit (.fail 180))) (.letI (.add (.v 2) (.c 1)) (.again [.v 9] [])))))))) (.exit (.letI (.add (.v 0) (.c 1)) (.again [.v 4] [])))))) (.exit (.call 25 (L2.yes L2.f_messuagelaw2_begun).rel [] [] 0 0 (.done [] [])))))
theorem PteEach_tree : (lawSpec 14 []).exe Tryz.prog (withS (L2.cfg2 Tryz.prog) [L2.lets_ 58, L2.lets_ 59]) [{ f := 14, reg := 13, ints := [(4, 0, 31)] }, { f := 14, reg := 16, ints := [(5, -1, 5)] }] 20 200 = PteEach_t := by kernel_rfl
theorem PteEach_vc (Q : List Int → List (List Int) → Prop) : PteEach_t.dn ⟨Q, []⟩ 0 [] 0 [] = (∃ (I0 : List Int → List (List Int) → Prop) (μ0 : List Int → List (List Int) → Nat), I0 [(0 : Int)] [] ∧
(∀ v0 : Int, I0 [v0] [] →
 ((v0 ≤ (30 : Int)) → ∃ (I1 : List Int → List (List Int) → Prop) (μ1 : List Int → List (List Int) → Nat), I1 [((-1) : Int)] [] ∧
(∀ v2 : Int, I1 [v2] [] →
 ((v2 ≤ (4 : Int)) → (L2.lets_ 58).rel.pre [v2, v0] [] ∧
(∀ v4 : Int, (L2.lets_ 58).rel.post [v2, v0] [] [v4] [] → (L2.lets_ 59).rel.pre [v2, v0] [] ∧
(∀ v5 : Int, (L2.lets_ 59).rel.post [v2, v0] [] [v5] [] → ∀ v6 : Int, v6 = b2i (v4 == 0) → ∀ v7 : Int, v7 = b2i (v5 == 0) → ((v6 ≠ v7) → False) ∧
((v6 = v7) → ∀ v9 : Int, v9 = v2 + (1 : Int) → (I1 [v9] [] ∧ μ1 [v9] [] < μ1 [v2] []))))) ∧
(((4 : Int) < v2) → ∀ v4 : Int, v4 = v0 + (1 : Int) → (I0 [v4] [] ∧ μ0 [v4] [] < μ0 [v0] [])))) ∧
(((30 : Int) < v0) → (L2.yes L2.f_messuagelaw2_begun).rel.pre [] [] ∧
((L2.yes L2.f_messuagelaw2_begun).rel.post [] [] [] [] → Q [] [])))) := by kernel_rfl
set_option maxHeartbeats 4000000 in
theorem pteEach_holds0 : (lawSpec 14 []).Holds Tryz.prog L2.ro := FSpec.holdsV (cfg := withS (L2.cfg2 Tryz.prog) [L2.lets_ 58, L2.lets_ 59]) [{ f := 14, reg := 13, ints := [(4, 0, 31)] }, { f := 14, reg := 16, ints := [(5, -1, 5)] }] 20 200 (withS_ok cfg2_ok ⟨pLets_holds, rLets_holds, trivial⟩) mixed (t := PteEach_t) PteEach_tree (by
  show _ → _
  intro   hp hr hl
  replace hr : True := hr
  replace hp : True := hp
  show PteEach_t.dn ⟨_, []⟩ 0 [] 0 []
  rw [PteEach_vc]
--nobegun
  simp only [fnSpec_post, fnSpec_pre, true_and, List.cons.injEq, and_true, List.getD_cons_zero, List.getD_cons_succ]
  refine ⟨fun xs _ => match xs with | [i] => 0 ≤ i | _ => False, fun xs _ => match xs with | i :: _ => (31 - i).toNat | _ => 0, ?_, ?_⟩ <;> dsimp only
  · omega
  · intro v0 hI
    refine ⟨fun c1 => ?_, fun c1 => ⟨trivial, fun _ => trivial⟩⟩
    refine ⟨fun xs _ => match xs with | [i] => -1 ≤ i | _ => False, fun xs _ => match xs with | i :: _ => (5 - i).toNat | _ => 0, ?_, ?_⟩ <;> dsimp only
    · omega
    · intro v2 hJ
      simp only [b2i]
      repeat' first | refine And.intro ?_ ?_ | intro _
      all_goals first | trivial | omega | grind)
theorem pteEach_holds : ((lawSpec 14 []).withPre fun _ => True).Holds Tryz.prog L2.ro := holds_withPre _ pteEach_holds0

theorem pteEach_calls {H : Type} {enc : TypeId × Value → H} {W : World} {base : Nat} {args : Array Value} {ds : List (DataW H)} {p : List MemPlace} (hval : ∀ (j : Nat) t v, Tryz.f14.params[j]? = some t → args[j]? = some v → Value.okWide Tryz.prog W .any base t v)
    (hA : DataW.TrodAll enc Tryz.prog W 0 (fun _ => true) true Tryz.f14.params.toList args.toList ds p) (hL : laidMetH Tryz.prog laid1 W) : Calls Tryz.prog 14 args W fun e W' => e = .returned (.bool true) ∧ Go.Sx.Frame ⟨W, [], L2.ro⟩ W' := by
  rw [Tryz.params14] at hA hval
  obtain ⟨ea, rfl, rfl⟩ := trodAll_nil hA
  obtain rfl : args = #[] := by cases args; simp_all
  exact law_calls (base := 0) (pteEach_holds) Tryz.func14 (show Tryz.f14.body = some _ from rfl) (by kernel_rfl) (.none) trivial (ro_of_laid hL)
set_option maxHeartbeats 1000000 in
theorem pteEach_lifted (os : Os) (started : os.Started) (H : Type) (enc : TypeId × Value → H) :
    ReturnsInHanded {} Tryz.checked os 14 .any (fun w args => (Rows.pteEachSpec.pre enc Tryz.prog Tryz.f14 [] false w args ∧ laidMetH Tryz.prog laid1 w) ∧ sizedMet enc Tryz.prog Tryz.f14 (OpenSpec.ofChange Rows.pteEachSpec) false w args)
      (Rows.pteEachSpec.post enc Tryz.prog Tryz.f14 false true false false) := by
  refine returnsInHanded_of_change_and (C := Tryz.checked) (X := fun w _ => laidMetH Tryz.prog laid1 w) (fun _ _ _ hh h => h.of_heap hh) Tryz.own started (by kernel_rfl) Tryz.func14
    (ChangeSpec.witness_at (enc := enc) (C := Tryz.checked) (os := os) (X := fun w _ => laidMetH Tryz.prog laid1 w) false (laidWorld os) #[] 8 rfl (by kernel_rfl) (by kernel_rfl) (by kernel_rfl) (by kernel_rfl) (by kernel_rfl) (laidWorld_met os _)) ?_
  intro W base args ds gs before hval0 hW _ _ hL _
  have hval : ∀ (j : Nat) t v, Tryz.f14.params[j]? = some t → args[j]? = some v → Value.okWide Tryz.prog W .any base t v := hval0
  have hW' := hW
  obtain ⟨p, q, hA0, hV0, rfl, hfz, hnd⟩ := hW
  have hcall := pteEach_calls (enc := enc) hval hA0 hL
  refine Calls.mono hcall ?_
  rintro e W' ⟨rfl, hfr⟩
  exact ⟨_, rfl, post_kept Tryz.laidOut (by kernel_rfl) rfl rfl und4 hW' hfr (by
    have hg : gs = [] := by cases gs with | nil => rfl | cons g r => exact absurd hV0 (by intro h; cases h)
    subst hg
    have hA1 : DataW.TrodAll enc Tryz.prog W 0 (fun _ => true) true Tryz.f14.params.toList args.toList ds p := hA0
    rw [Tryz.params14] at hA1
    obtain ⟨ea, rfl, eb⟩ := trodAll_nil hA1
    rfl)⟩

theorem pteEach_row : Rows.PteEachSaid :=
  OpenClaim.holds_of_wide 14 Tryz.f14 rfl rfl rfl rfl rfl rfl rfl ⟨rfl, rfl, rfl, rfl, rfl⟩ rfl rfl rfl rfl rfl (by kernel_rfl) Tryz.func14 (restFacts.2 _ _ _ _ _ Tryz.mayEnter Tryz.liftsFinal Tryz.make (by kernel_rfl))
    (of_decide_eq_true (by kernel_rfl)) (by unfold Func.isWrapper; rw [if_neg (of_decide_eq_false (by kernel_rfl))]; exact ⟨rfl, rfl⟩)
    (fun os started H enc _ => pteEach_lifted os started H enc)
theorem pteEach_card : Rows.PteEachCardSaid :=
  Claim7.holds_tied_plain_at .later [] [.handle] true (true, "8c0441bbc8609432f713c1c89f5af20e6af72254f1482b9eed96a33066278ab6") true
    pteEach_row (fun _ h => by cases h) (by kernel_rfl) (fun _ h => by cases h) pteEach_row_tie rfl ⟨rfl, rfl⟩ Tryz.mainIs rfl
    (fun f fn hf hfn => by
      obtain rfl : f = 14 := Option.some.inj ((show Tryz.prog.funcNamed "messuage/messuagelaw2.PteEach" = some 14 by kernel_rfl).symm.trans hf) |>.symm
      obtain rfl : fn = Tryz.f14 := (Option.some.inj (Tryz.func14.symm.trans hfn)).symm
      exact ⟨by kernel_rfl, fun j t ht => by
        rw [Tryz.params14] at ht
        simp at ht⟩)
    (by kernel_rfl)
#print axioms pteEach_card
end Go.Proofs.YthjfkblnbecjgaaGreatDoor
