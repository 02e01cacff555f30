/- The statement messuagelaw2.CellSwap of the seat: for every input the law returns true; the condition: errors.errorType is as the program lays it. -/
import Derived.Test.YthjfkblnbecjgaaGreatDoorL2B
import Derived.Test.YthjfkblnbecjgaaGreatDoorSxDn
set_option linter.unusedVariables false
open Go Go.Sx
namespace Go.Proofs.YthjfkblnbecjgaaGreatDoor
open Go.ChangeShapes Go.WideShapes Go.RowKit
set_option maxRecDepth 100000

noncomputable def CellSwap_t : Tree := .call 25 (L2.yes L2.f_messuagelaw2_begun).rel [] [] 0 0 (.loop [.c (0), .v 0, .v 0, .c (0)] [] (.letI (.cmp .lss (.v 3) (.v 1)) (.ite (.v 7) (.letI (.cmp .lss (.v 3) (.c 30)) (.ite (.v 8) (.letI (.add (.v 4) (.c 1)) (.letI (.wr .u64 (.v 9)) (.letI (.add (.v 6) (.c 1)) (.letI (.wr .i64 (.v 11)) (.letI (.cmp .neq (.v 5) (.v 10)) (.ite (.v 13) (.need .lss (.v 3) (.v 1) (.need .lss (.v 3) (.v 1) (.letI (.get 0 (.v 3)) (.letI (.add (.v 12) (.c 1)) (.letI (.wr .i64 (.v 15)) (.letI (.cmp .neq (.v 4) (.v 5)) (.ite (.v 17) (.exit (.fail 180)) (.need .lss (.v 3) (.v 1) (.need .lss (.v 3) (.v 1) (.letI (.add (.v 3) (.c 1)) (.again [.v 18, .v 14, .v 14, .v 16] []))))))))))) (.exit (.fail 180)))))))) (.exit (.letI (.add (.v 6) (.c 1)) (.letI (.wr .i64 (.v 9)) (.letI (.cmp .eql (.v 4) (.v 5)) (.need .neq (.v 11) (.c 0) (.done [] [])))))))) (.exit (.letI (.add (.v 6) (.c 1)) (.letI (.wr .i64 (.v 8)) (.letI (.cmp .eql (.v 4) (.v 5)) (.need .neq (.v 10) (.c 0) (.done [] [])))))))))
theorem CellSwap_tree : (lawSpec 7 [.one (.i .u64), .slc [.i .u64]]).exe Tryz.prog (L2.cfg2 Tryz.prog) [{ f := 7, reg := 6, ints := [(7, 0, 30), (0, 0, 18446744073709551615)], cells := [(6, [], 0, 0, 18446744073709551615), (6, [], 1, -9223372036854775808, 9223372036854775807)] }] 20 200 = CellSwap_t := by kernel_rfl
theorem CellSwap_vc (Q : List Int → List (List Int) → Prop) (v0 v1 v2 : Int) (L0 : List Int) : CellSwap_t.dn ⟨Q, []⟩ 3 [v2, v1, v0] 1 [L0] = ((L2.yes L2.f_messuagelaw2_begun).rel.pre [] [] ∧
((L2.yes L2.f_messuagelaw2_begun).rel.post [] [] [] [] → ∃ (I0 : List Int → List (List Int) → Prop) (μ0 : List Int → List (List Int) → Nat), I0 [(0 : Int), v0, v0, (0 : Int)] [] ∧
(∀ v3 : Int, ∀ v4 : Int, ∀ v5 : Int, ∀ v6 : Int, I0 [v3, v4, v5, v6] [] →
 ((v3 < v1) → ((v3 < (30 : Int)) → ∀ v9 : Int, v9 = v4 + (1 : Int) → ∀ v10 : Int, v10 = IntKind.wrap .u64 v9 → ∀ v11 : Int, v11 = v6 + (1 : Int) → ∀ v12 : Int, v12 = IntKind.wrap .i64 v11 → ((v5 ≠ v10) → (v3 < v1) ∧ (v3 < v1) ∧ ∀ v14 : Int, v14 = (L0).getD (v3).toNat 0 → ∀ v15 : Int, v15 = v12 + (1 : Int) → ∀ v16 : Int, v16 = IntKind.wrap .i64 v15 → ((v4 ≠ v5) → False) ∧
((v4 = v5) → (v3 < v1) ∧ (v3 < v1) ∧ ∀ v18 : Int, v18 = v3 + (1 : Int) → (I0 [v18, v14, v14, v16] [] ∧ μ0 [v18, v14, v14, v16] [] < μ0 [v3, v4, v5, v6] []))) ∧
((v5 = v10) → False)) ∧
(((30 : Int) ≤ v3) → ∀ v9 : Int, v9 = v6 + (1 : Int) → ∀ v10 : Int, v10 = IntKind.wrap .i64 v9 → ∀ v11 : Int, v11 = b2i (v4 == v5) → (v11 ≠ (0 : Int)) ∧ Q [] [])) ∧
((v1 ≤ v3) → ∀ v8 : Int, v8 = v6 + (1 : Int) → ∀ v9 : Int, v9 = IntKind.wrap .i64 v8 → ∀ v10 : Int, v10 = b2i (v4 == v5) → (v10 ≠ (0 : Int)) ∧ Q [] [])))) := by kernel_rfl
set_option maxHeartbeats 4000000 in
theorem cellSwap_holds : ((lawSpec 7 [.one (.i .u64), .slc [.i .u64]]).withPre fun _ => True).Holds Tryz.prog L2.ro := FSpec.holdsV (cfg := L2.cfg2 Tryz.prog) [{ f := 7, reg := 6, ints := [(7, 0, 30), (0, 0, 18446744073709551615)], cells := [(6, [], 0, 0, 18446744073709551615), (6, [], 1, -9223372036854775808, 9223372036854775807)] }] 20 200 cfg2_ok mixed (t := CellSwap_t) (by rw [exe_withPre]; exact CellSwap_tree) (by
  show ∀ (v0 v1 v2 : Int) (L0 : List Int), _
  intro v0 v1 v2 L0 hp hr hl
  have hr : ((0 : Int) ≤ v0 ∧ v0 ≤ (18446744073709551615 : Int)) ∧ ((0 : Int) ≤ v1 ∧ v1 ≤ (9223372036854775807 : Int)) ∧ ((0 : Int) ≤ v2 ∧ v2 ≤ (9223372036854775807 : Int)) ∧ True := hr
  have hp : (True ∧ ((0 : Int) ≤ v1 ∧ v1 ≤ v2 ∧ (L0.length : Int) = v1 * ((1 : Nat) : Int) ∧ ((1 : Nat) ≠ 1 → [v0, v1, v2].getD 3 0 = v1 * ((1 : Nat) : Int)) ∧ ∀ j, j < L0.length → ((oneKind [.i .u64]).getD (j % (oneKind [.i .u64]).length) (.i .i64)).lo ≤ L0.getD j 0 ∧ L0.getD j 0 ≤ ((oneKind [.i .u64]).getD (j % (oneKind [.i .u64]).length) (.i .i64)).hi)) ∧ True := hp
  show CellSwap_t.dn ⟨_, []⟩ 3 [v2, v1, v0] 1 [L0]
  rw [CellSwap_vc]
  show ((L2.yes L2.f_messuagelaw2_begun).rel.pre [] [] ∧ _)
  refine ⟨trivial, fun _ => ?_⟩
  refine ⟨fun xs _ => match xs with | [i, v, c, n] => 0 ≤ i ∧ 0 ≤ v ∧ v ≤ 18446744073709551615 ∧ v = c | _ => False, fun xs _ => (30 - xs.getD 0 0).toNat, ?_, ?_⟩
  · show (_ ∧ _); grind
  · intro v3 v4 v5 v6 hI
    have hI : 0 ≤ v3 ∧ 0 ≤ v4 ∧ v4 ≤ 18446744073709551615 ∧ v4 = v5 := hI
    obtain ⟨i0, u0, u1, rfl⟩ := hI
    refine ⟨fun c1 => ⟨fun c2 => ?_, fun c2 => ?_⟩, fun c1 => ?_⟩
    · intro v9 e9 v10 e10 v11 e11 v12 e12
      refine ⟨fun c3 => ⟨c1, c1, ?_⟩, fun c3 => ?_⟩
      · intro v14 e14 v15 e15 v16 e16
        refine ⟨fun c => absurd rfl c, fun _ => ⟨c1, c1, fun v18 e18 => ?_⟩⟩
        have hb := hp.1.2.2.2.2.2 v3.toNat (by have := hp.1.2.2.2.1; omega)
        rw [← e14] at hb
        have hb : 0 ≤ v14 ∧ v14 ≤ 18446744073709551615 := by simpa [oneKind, CK.lo, CK.hi, IntKind.min, IntKind.max, IntKind.bits, IntKind.signed, Nat.mod_one] using hb
        refine ⟨?_, ?_⟩
        · show (_ ∧ _); grind
        · show (30 - v18).toNat < (30 - v3).toNat; omega
      · rw [wrapU] at e10; omega
    · intro v9 e9 v10 e10 v11 e11
      exact ⟨by subst e11; simp [b2i], trivial⟩
    · intro v9 e9 v10 e10 v11 e11
      exact ⟨by subst e11; simp [b2i], trivial⟩)

noncomputable def CellSwap_n_t : Tree := .call 25 (L2.yes L2.f_messuagelaw2_begun).rel [] [] 0 0 (.loop [.c (0), .v 0, .v 0, .c (0)] [] (.exit (.letI (.add (.v 4) (.c 1)) (.letI (.wr .i64 (.v 5)) (.letI (.cmp .eql (.v 2) (.v 3)) (.need .neq (.v 7) (.c 0) (.done [] [])))))))
theorem CellSwap_n_tree : (lawSpec 7 [.one (.i .u64), .nil]).exe Tryz.prog (L2.cfg2 Tryz.prog) [{ f := 7, reg := 6, ints := [(7, 0, 30), (0, 0, 18446744073709551615)], cells := [(6, [], 0, 0, 18446744073709551615), (6, [], 1, -9223372036854775808, 9223372036854775807)] }] 20 200 = CellSwap_n_t := by kernel_rfl
theorem CellSwap_n_vc (Q : List Int → List (List Int) → Prop) (v0 : Int) : CellSwap_n_t.dn ⟨Q, []⟩ 1 [v0] 0 [] = ((L2.yes L2.f_messuagelaw2_begun).rel.pre [] [] ∧
((L2.yes L2.f_messuagelaw2_begun).rel.post [] [] [] [] → ∃ (I0 : List Int → List (List Int) → Prop) (μ0 : List Int → List (List Int) → Nat), I0 [(0 : Int), v0, v0, (0 : Int)] [] ∧
(∀ v1 : Int, ∀ v2 : Int, ∀ v3 : Int, ∀ v4 : Int, I0 [v1, v2, v3, v4] [] →
 ∀ v5 : Int, v5 = v4 + (1 : Int) → ∀ v6 : Int, v6 = IntKind.wrap .i64 v5 → ∀ v7 : Int, v7 = b2i (v2 == v3) → (v7 ≠ (0 : Int)) ∧ Q [] []))) := by kernel_rfl
set_option maxHeartbeats 4000000 in
theorem cellSwap_holds_n : ((lawSpec 7 [.one (.i .u64), .nil]).withPre fun _ => True).Holds Tryz.prog L2.ro := FSpec.holdsV (cfg := L2.cfg2 Tryz.prog) [{ f := 7, reg := 6, ints := [(7, 0, 30), (0, 0, 18446744073709551615)], cells := [(6, [], 0, 0, 18446744073709551615), (6, [], 1, -9223372036854775808, 9223372036854775807)] }] 20 200 cfg2_ok mixed (t := CellSwap_n_t) (by rw [exe_withPre]; exact CellSwap_n_tree) (by
  show ∀ (v0 : Int) , _
  intro v0  hp hr hl
  have hr : ((0 : Int) ≤ v0 ∧ v0 ≤ (18446744073709551615 : Int)) ∧ True := hr
  have hp : True ∧ True := hp
  show CellSwap_n_t.dn ⟨_, []⟩ 1 [v0] 0 []
  rw [CellSwap_n_vc]
  show ((L2.yes L2.f_messuagelaw2_begun).rel.pre [] [] ∧ _)
  refine ⟨trivial, fun _ => ?_⟩
  refine ⟨fun xs _ => match xs with | [i, v, c, n] => v = c | _ => False, fun _ _ => 0, rfl, ?_⟩
  intro v1 v2 v3 v4 hI v5 e5 v6 e6 v7 e7
  have hI : v2 = v3 := hI
  exact ⟨by subst e7; simp [b2i, hI], trivial⟩)

theorem cellSwap_calls {H : Type} {enc : TypeId × Value → H} {W : World} {base : Nat} {args : Array Value} {ds : List (DataW H)} {p : List MemPlace} (hval : ∀ (j : Nat) t v, Tryz.f7.params[j]? = some t → args[j]? = some v → Value.okWide Tryz.prog W .any base t v)
    (hA : DataW.TrodAll enc Tryz.prog W 0 (fun _ => true) true Tryz.f7.params.toList args.toList ds p) (hL : laidMetH Tryz.prog laid1 W) : Calls Tryz.prog 7 args W fun e W' => e = .returned (.bool true) ∧ Go.Sx.Frame ⟨W, [], L2.ro⟩ W' := by
  rw [Tryz.params7] at hA hval
  obtain ⟨v0, v1, d0, d1, p0, p1, rfl, rfl, rfl, h0, h1⟩ := trodAll_two hA
  obtain ⟨n0, q0⟩ := par_int (base := 0) und24 (hval 0 24 v0 rfl rfl) h0
  rcases par_flats (base := 0) (f := 9) und40 flat24 cells24 (by decide) (hval 1 40 v1 rfl rfl) h1 with q1 | ⟨e1, q1⟩
  · exact law_calls (cellSwap_holds_n) Tryz.func7 (show Tryz.f7.body = some _ from rfl) (by kernel_rfl) (.cons q0 (.cons q1 .none)) trivial (ro_of_laid hL)
  · exact law_calls (cellSwap_holds) Tryz.func7 (show Tryz.f7.body = some _ from rfl) (by kernel_rfl) (.cons q0 (.cons q1 .none)) trivial (ro_of_laid hL)
set_option maxHeartbeats 1000000 in
theorem cellSwap_lifted (os : Os) (started : os.Started) (H : Type) (enc : TypeId × Value → H) :
    ReturnsInHanded {} Tryz.checked os 7 .any (fun w args => (Rows.cellSwapSpec.pre enc Tryz.prog Tryz.f7 [] false w args ∧ laidMetH Tryz.prog laid1 w) ∧ sizedMet enc Tryz.prog Tryz.f7 (OpenSpec.ofChange Rows.cellSwapSpec) false w args)
      (Rows.cellSwapSpec.post enc Tryz.prog Tryz.f7 false true false false) := by
  refine returnsInHanded_of_change_and (C := Tryz.checked) (X := fun w _ => laidMetH Tryz.prog laid1 w) (fun _ _ _ hh h => h.of_heap hh) Tryz.own started (by kernel_rfl) Tryz.func7
    (ChangeSpec.witness_at (enc := enc) (C := Tryz.checked) (os := os) (X := fun w _ => laidMetH Tryz.prog laid1 w) false (laidWorld os) #[.int .u64 0, .slice none 0 0] 8 rfl (by kernel_rfl) (by kernel_rfl) (by kernel_rfl) (by kernel_rfl) (by kernel_rfl) (laidWorld_met os _)) ?_
  intro W base args ds gs before hval0 hW _ _ hL _
  have hval : ∀ (j : Nat) t v, Tryz.f7.params[j]? = some t → args[j]? = some v → Value.okWide Tryz.prog W .any base t v := hval0
  have hW' := hW
  obtain ⟨p, q, hA0, hV0, rfl, hfz, hnd⟩ := hW
  have hcall := cellSwap_calls (enc := enc) hval hA0 hL
  refine Calls.mono hcall ?_
  rintro e W' ⟨rfl, hfr⟩
  exact ⟨_, rfl, post_kept Tryz.laidOut (by kernel_rfl) rfl rfl und4 hW' hfr (by
    have hg : gs = [] := by cases gs with | nil => rfl | cons g r => exact absurd hV0 (by intro h; cases h)
    subst hg
    have hA1 : DataW.TrodAll enc Tryz.prog W 0 (fun _ => true) true Tryz.f7.params.toList args.toList ds p := hA0
    rw [Tryz.params7] at hA1
    obtain ⟨v0, v1, d0, d1, p0, p1, ea, rfl, ec, h0, h1⟩ := trodAll_two hA1
    rfl)⟩

theorem cellSwap_row : Rows.CellSwapSaid :=
  OpenClaim.holds_of_wide 7 Tryz.f7 rfl rfl rfl rfl rfl rfl rfl ⟨rfl, rfl, rfl, rfl, rfl⟩ rfl rfl rfl rfl rfl (by kernel_rfl) Tryz.func7 (restFacts.2 _ _ _ _ _ Tryz.mayEnter Tryz.liftsFinal Tryz.make (by kernel_rfl))
    (of_decide_eq_true (by kernel_rfl)) (by unfold Func.isWrapper; rw [if_neg (of_decide_eq_false (by kernel_rfl))]; exact ⟨rfl, rfl⟩)
    (fun os started H enc _ => cellSwap_lifted os started H enc)
theorem cellSwap_card : Rows.CellSwapCardSaid :=
  Claim7.holds_tied_plain_at .later [] [.handle] true (true, "8c0441bbc8609432f713c1c89f5af20e6af72254f1482b9eed96a33066278ab6") true
    cellSwap_row (fun _ h => by cases h) (by kernel_rfl) (fun _ h => by cases h) cellSwap_row_tie rfl ⟨rfl, rfl⟩ Tryz.mainIs rfl
    (fun f fn hf hfn => by
      obtain rfl : f = 7 := Option.some.inj ((show Tryz.prog.funcNamed "messuage/messuagelaw2.CellSwap" = some 7 by kernel_rfl).symm.trans hf) |>.symm
      obtain rfl : fn = Tryz.f7 := (Option.some.inj (Tryz.func7.symm.trans hfn)).symm
      exact ⟨by kernel_rfl, fun j t ht => by
        rw [Tryz.params7] at ht
        rcases j with _ | _ | j
        · obtain rfl : 24 = t := by simpa using ht
          exact (show Tryz.prog.wantsStandIn 24 = false by kernel_rfl)
        · obtain rfl : 40 = t := by simpa using ht
          exact (show Tryz.prog.wantsStandIn 40 = false by kernel_rfl)
        · simp at ht⟩)
    (by kernel_rfl)
#print axioms cellSwap_card
end Go.Proofs.YthjfkblnbecjgaaGreatDoor
