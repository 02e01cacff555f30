/- The statement messuagelaw2.CellCount of the seat: for every input the law returns true; the condition: errors.errorType is as the program lays it. -/
import Derived.Test.YthjfkblnbecjgaaGreatDoorL2B
import Derived.Test.YthjfkblnbecjgaaGreatDoorSxDn
set_option linter.unusedVariables false
open Go Go.Sx
namespace Go.Proofs.YthjfkblnbecjgaaGreatDoor
open Go.ChangeShapes Go.WideShapes Go.RowKit
set_option maxRecDepth 100000

noncomputable def CellCount_t : Tree := .call 25 (L2.yes L2.f_messuagelaw2_begun).rel [] [] 0 0 (.letI (.bit .and .u64 (.v 2) (.c 7)) (.loop [.c (0), .c (0), .c (0), .c (0)] [] (.letI (.cmp .lss (.v 4) (.v 0)) (.ite (.v 8) (.letI (.cmp .lss (.v 4) (.c 60)) (.ite (.v 9) (.need .lss (.v 4) (.v 0) (.need .lss (.v 4) (.v 0) (.letI (.get 0 (.v 4)) (.ite (.v 10) (.letI (.add (.v 7) (.c 1)) (.letI (.wr .i64 (.v 11)) (.letI (.cmp .geq (.v 6) (.v 3)) (.ite (.v 13) (.letI (.cmp .lss (.v 5) (.v 3)) (.letI (.not (.v 14)) (.letI (.cmp .neq (.v 15) (.c 1)) (.ite (.v 16) (.exit (.fail 180)) (.letI (.cmp .neq (.v 5) (.v 6)) (.ite (.v 17) (.exit (.fail 180)) (.letI (.add (.v 4) (.c 1)) (.again [.v 18, .v 5, .v 6, .v 12] [])))))))) (.letI (.add (.v 6) (.c 1)) (.letI (.cmp .lss (.v 5) (.v 3)) (.letI (.not (.v 15)) (.letI (.cmp .neq (.v 16) (.c 0)) (.ite (.v 17) (.exit (.fail 180)) (.letI (.add (.v 5) (.c 1)) (.letI (.wr .u64 (.v 18)) (.letI (.cmp .neq (.v 14) (.v 19)) (.ite (.v 20) (.exit (.fail 180)) (.letI (.add (.v 4) (.c 1)) (.again [.v 21, .v 19, .v 14, .v 12] []))))))))))))))) (.letI (.add (.v 7) (.c 1)) (.letI (.wr .i64 (.v 11)) (.letI (.cmp .eql (.v 6) (.c 0)) (.ite (.v 13) (.letI (.cmp .gtr (.v 5) (.c 0)) (.letI (.not (.v 14)) (.letI (.cmp .neq (.v 15) (.c 1)) (.ite (.v 16) (.exit (.fail 180)) (.letI (.mx (.v 5) (.c 1)) (.letI (.sub (.v 17) (.c 1)) (.letI (.cmp .neq (.v 18) (.c 0)) (.ite (.v 19) (.exit (.fail 180)) (.letI (.add (.v 4) (.c 1)) (.again [.v 20, .v 18, .v 6, .v 12] [])))))))))) (.letI (.sub (.v 6) (.c 1)) (.letI (.cmp .gtr (.v 5) (.c 0)) (.letI (.not (.v 15)) (.letI (.cmp .neq (.v 16) (.c 0)) (.ite (.v 17) (.exit (.fail 180)) (.letI (.mx (.v 5) (.c 1)) (.letI (.sub (.v 18) (.c 1)) (.letI (.cmp .neq (.v 14) (.v 19)) (.ite (.v 20) (.exit (.fail 180)) (.letI (.add (.v 4) (.c 1)) (.again [.v 21, .v 19, .v 14, .v 12] []))))))))))))))))))) (.exit (.letI (.add (.v 7) (.c 1)) (.letI (.wr .i64 (.v 10)) (.letI (.cmp .eql (.v 5) (.v 6)) (.ite (.v 12) (.letI (.cmp .leq (.v 5) (.v 3)) (.need .neq (.v 13) (.c 0) (.done [] []))) (.fail 180)))))))) (.exit (.letI (.add (.v 7) (.c 1)) (.letI (.wr .i64 (.v 9)) (.letI (.cmp .eql (.v 5) (.v 6)) (.ite (.v 11) (.letI (.cmp .leq (.v 5) (.v 3)) (.need .neq (.v 12) (.c 0) (.done [] []))) (.fail 180))))))))))
theorem CellCount_tree : (lawSpec 13 [.slc [.b], .one (.i .u64)]).exe Tryz.prog (L2.cfg2 Tryz.prog) [{ f := 13, reg := 8, ints := [(8, 0, 60), (7, 0, 18446744073709551615)], cells := [(6, [], 0, 0, 18446744073709551615), (6, [], 1, -9223372036854775808, 9223372036854775807)] }] 20 200 = CellCount_t := by kernel_rfl
theorem CellCount_vc (Q : List Int → List (List Int) → Prop) (v0 v1 v2 : Int) (L0 : List Int) : CellCount_t.dn ⟨Q, []⟩ 3 [v2, v1, v0] 1 [L0] = ((L2.yes L2.f_messuagelaw2_begun).rel.pre [] [] ∧
((L2.yes L2.f_messuagelaw2_begun).rel.post [] [] [] [] → ∀ v3 : Int, v3 = bitDen .and .u64 v2 (7 : Int) → ∃ (I0 : List Int → List (List Int) → Prop) (μ0 : List Int → List (List Int) → Nat), I0 [(0 : Int), (0 : Int), (0 : Int), (0 : Int)] [] ∧
(∀ v4 : Int, ∀ v5 : Int, ∀ v6 : Int, ∀ v7 : Int, I0 [v4, v5, v6, v7] [] →
 ((v4 < v0) → ((v4 < (60 : Int)) → (v4 < v0) ∧ (v4 < v0) ∧ ∀ v10 : Int, v10 = (L0).getD (v4).toNat 0 → (v10 ≠ 0 → ∀ v11 : Int, v11 = v7 + (1 : Int) → ∀ v12 : Int, v12 = IntKind.wrap .i64 v11 → ((v3 ≤ v6) → ∀ v14 : Int, v14 = b2i (decide (v5 < v3)) → ∀ v15 : Int, v15 = b2i (v14 == 0) → ((v15 ≠ (1 : Int)) → False) ∧
((v15 = (1 : Int)) → ((v5 ≠ v6) → False) ∧
((v5 = v6) → ∀ v18 : Int, v18 = v4 + (1 : Int) → (I0 [v18, v5, v6, v12] [] ∧ μ0 [v18, v5, v6, v12] [] < μ0 [v4, v5, v6, v7] [])))) ∧
((v6 < v3) → ∀ v14 : Int, v14 = v6 + (1 : Int) → ∀ v15 : Int, v15 = b2i (decide (v5 < v3)) → ∀ v16 : Int, v16 = b2i (v15 == 0) → ((v16 ≠ (0 : Int)) → False) ∧
((v16 = (0 : Int)) → ∀ v18 : Int, v18 = v5 + (1 : Int) → ∀ v19 : Int, v19 = IntKind.wrap .u64 v18 → ((v14 ≠ v19) → False) ∧
((v14 = v19) → ∀ v21 : Int, v21 = v4 + (1 : Int) → (I0 [v21, v19, v14, v12] [] ∧ μ0 [v21, v19, v14, v12] [] < μ0 [v4, v5, v6, v7] []))))) ∧
(v10 = 0 → ∀ v11 : Int, v11 = v7 + (1 : Int) → ∀ v12 : Int, v12 = IntKind.wrap .i64 v11 → ((v6 = (0 : Int)) → ∀ v14 : Int, v14 = b2i (decide (v5 > (0 : Int))) → ∀ v15 : Int, v15 = b2i (v14 == 0) → ((v15 ≠ (1 : Int)) → False) ∧
((v15 = (1 : Int)) → ∀ v17 : Int, v17 = (if (1 : Int) > v5 then (1 : Int) else v5) → ∀ v18 : Int, v18 = v17 - (1 : Int) → ((v18 ≠ (0 : Int)) → False) ∧
((v18 = (0 : Int)) → ∀ v20 : Int, v20 = v4 + (1 : Int) → (I0 [v20, v18, v6, v12] [] ∧ μ0 [v20, v18, v6, v12] [] < μ0 [v4, v5, v6, v7] [])))) ∧
((v6 ≠ (0 : Int)) → ∀ v14 : Int, v14 = v6 - (1 : Int) → ∀ v15 : Int, v15 = b2i (decide (v5 > (0 : Int))) → ∀ v16 : Int, v16 = b2i (v15 == 0) → ((v16 ≠ (0 : Int)) → False) ∧
((v16 = (0 : Int)) → ∀ v18 : Int, v18 = (if (1 : Int) > v5 then (1 : Int) else v5) → ∀ v19 : Int, v19 = v18 - (1 : Int) → ((v14 ≠ v19) → False) ∧
((v14 = v19) → ∀ v21 : Int, v21 = v4 + (1 : Int) → (I0 [v21, v19, v14, v12] [] ∧ μ0 [v21, v19, v14, v12] [] < μ0 [v4, v5, v6, v7] [])))))) ∧
(((60 : Int) ≤ v4) → ∀ v10 : Int, v10 = v7 + (1 : Int) → ∀ v11 : Int, v11 = IntKind.wrap .i64 v10 → ((v5 = v6) → ∀ v13 : Int, v13 = b2i (decide (v5 ≤ v3)) → (v13 ≠ (0 : Int)) ∧ Q [] []) ∧
((v5 ≠ v6) → False))) ∧
((v0 ≤ v4) → ∀ v9 : Int, v9 = v7 + (1 : Int) → ∀ v10 : Int, v10 = IntKind.wrap .i64 v9 → ((v5 = v6) → ∀ v12 : Int, v12 = b2i (decide (v5 ≤ v3)) → (v12 ≠ (0 : Int)) ∧ Q [] []) ∧
((v5 ≠ v6) → False))))) := by kernel_rfl
set_option maxHeartbeats 4000000 in
theorem cellCount_holds : ((lawSpec 13 [.slc [.b], .one (.i .u64)]).withPre fun _ => True).Holds Tryz.prog L2.ro := FSpec.holdsV (cfg := L2.cfg2 Tryz.prog) [{ f := 13, reg := 8, ints := [(8, 0, 60), (7, 0, 18446744073709551615)], cells := [(6, [], 0, 0, 18446744073709551615), (6, [], 1, -9223372036854775808, 9223372036854775807)] }] 20 200 cfg2_ok mixed (t := CellCount_t) (by rw [exe_withPre]; exact CellCount_tree) (by
  show ∀ (v0 v1 v2 : Int) (L0 : List Int), _
  intro v0 v1 v2 L0 hp hr hl
  have hr : ((0 : Int) ≤ v0 ∧ v0 ≤ (9223372036854775807 : Int)) ∧ ((0 : Int) ≤ v1 ∧ v1 ≤ (9223372036854775807 : Int)) ∧ ((0 : Int) ≤ v2 ∧ v2 ≤ (18446744073709551615 : Int)) ∧ True := hr
  have hp : (True ∧ ((0 : Int) ≤ v0 ∧ v0 ≤ v1 ∧ (L0.length : Int) = v0 * ((1 : Nat) : Int) ∧ ((1 : Nat) ≠ 1 → [v0, v1, v2].getD 2 0 = v0 * ((1 : Nat) : Int)) ∧ ∀ j, j < L0.length → ((oneKind [.b]).getD (j % (oneKind [.b]).length) (.i .i64)).lo ≤ L0.getD j 0 ∧ L0.getD j 0 ≤ ((oneKind [.b]).getD (j % (oneKind [.b]).length) (.i .i64)).hi)) ∧ True := hp
  show CellCount_t.dn ⟨_, []⟩ 3 [v2, v1, v0] 1 [L0]
  rw [CellCount_vc]
  show ((L2.yes L2.f_messuagelaw2_begun).rel.pre [] [] ∧ _)
  refine ⟨trivial, fun _ => ?_⟩
  intro v3 e3
  have hv3 : 0 ≤ v3 ∧ v3 ≤ 7 := by subst e3; exact and_range .u64 v2 7 (by omega) (by decide)
  refine ⟨fun xs _ => match xs with | [i, n, c, s] => 0 ≤ i ∧ 0 ≤ n ∧ n ≤ v3 ∧ n = c | _ => False, fun xs _ => (60 - xs.getD 0 0).toNat, ?_, ?_⟩ <;> dsimp only [List.getD_cons_zero]
  · omega
  · intro v4 v5 v6 v7 hI
    simp only [wrapU, wrapI, b2i]
    repeat' first | refine And.intro ?_ ?_ | intro _
    all_goals first | trivial | omega | grind)

noncomputable def CellCount_n_t : Tree := .call 25 (L2.yes L2.f_messuagelaw2_begun).rel [] [] 0 0 (.letI (.bit .and .u64 (.v 0) (.c 7)) (.loop [.c (0), .c (0), .c (0), .c (0)] [] (.exit (.letI (.add (.v 5) (.c 1)) (.letI (.wr .i64 (.v 6)) (.letI (.cmp .eql (.v 3) (.v 4)) (.ite (.v 8) (.letI (.cmp .leq (.v 3) (.v 1)) (.need .neq (.v 9) (.c 0) (.done [] []))) (.fail 180))))))))
theorem CellCount_n_tree : (lawSpec 13 [.nil, .one (.i .u64)]).exe Tryz.prog (L2.cfg2 Tryz.prog) [{ f := 13, reg := 8, ints := [(8, 0, 60), (7, 0, 18446744073709551615)], cells := [(6, [], 0, 0, 18446744073709551615), (6, [], 1, -9223372036854775808, 9223372036854775807)] }] 20 200 = CellCount_n_t := by kernel_rfl
theorem CellCount_n_vc (Q : List Int → List (List Int) → Prop) (v0 : Int) : CellCount_n_t.dn ⟨Q, []⟩ 1 [v0] 0 [] = ((L2.yes L2.f_messuagelaw2_begun).rel.pre [] [] ∧
((L2.yes L2.f_messuagelaw2_begun).rel.post [] [] [] [] → ∀ v1 : Int, v1 = bitDen .and .u64 v0 (7 : Int) → ∃ (I0 : List Int → List (List Int) → Prop) (μ0 : List Int → List (List Int) → Nat), I0 [(0 : Int), (0 : Int), (0 : Int), (0 : Int)] [] ∧
(∀ v2 : Int, ∀ v3 : Int, ∀ v4 : Int, ∀ v5 : Int, I0 [v2, v3, v4, v5] [] →
 ∀ v6 : Int, v6 = v5 + (1 : Int) → ∀ v7 : Int, v7 = IntKind.wrap .i64 v6 → ((v3 = v4) → ∀ v9 : Int, v9 = b2i (decide (v3 ≤ v1)) → (v9 ≠ (0 : Int)) ∧ Q [] []) ∧
((v3 ≠ v4) → False)))) := by kernel_rfl
set_option maxHeartbeats 4000000 in
theorem cellCount_holds_n : ((lawSpec 13 [.nil, .one (.i .u64)]).withPre fun _ => True).Holds Tryz.prog L2.ro := FSpec.holdsV (cfg := L2.cfg2 Tryz.prog) [{ f := 13, reg := 8, ints := [(8, 0, 60), (7, 0, 18446744073709551615)], cells := [(6, [], 0, 0, 18446744073709551615), (6, [], 1, -9223372036854775808, 9223372036854775807)] }] 20 200 cfg2_ok mixed (t := CellCount_n_t) (by rw [exe_withPre]; exact CellCount_n_tree) (by
  show ∀ (v0 : Int) , _
  intro v0  hp hr hl
  have hr : ((0 : Int) ≤ v0 ∧ v0 ≤ (18446744073709551615 : Int)) ∧ True := hr
  have hp : True ∧ True := hp
  show CellCount_n_t.dn ⟨_, []⟩ 1 [v0] 0 []
  rw [CellCount_n_vc]
  show ((L2.yes L2.f_messuagelaw2_begun).rel.pre [] [] ∧ _)
  refine ⟨trivial, fun _ => ?_⟩
  intro v1 e1
  have hv1 : 0 ≤ v1 ∧ v1 ≤ 7 := by subst e1; exact and_range .u64 v0 7 (by omega) (by decide)
  refine ⟨fun xs _ => match xs with | [i, n, c, s] => 0 ≤ i ∧ 0 ≤ n ∧ n ≤ v1 ∧ n = c | _ => False, fun xs _ => (60 - xs.getD 0 0).toNat, ?_, ?_⟩ <;> dsimp only [List.getD_cons_zero]
  · omega
  · intro v4 v5 v6 v7 hI
    simp only [wrapU, wrapI, b2i]
    repeat' first | refine And.intro ?_ ?_ | intro _
    all_goals first | trivial | omega | grind)

theorem cellCount_calls {H : Type} {enc : TypeId × Value → H} {W : World} {base : Nat} {args : Array Value} {ds : List (DataW H)} {p : List MemPlace} (hval : ∀ (j : Nat) t v, Tryz.f13.params[j]? = some t → args[j]? = some v → Value.okWide Tryz.prog W .any base t v)
    (hA : DataW.TrodAll enc Tryz.prog W 0 (fun _ => true) true Tryz.f13.params.toList args.toList ds p) (hL : laidMetH Tryz.prog laid1 W) : Calls Tryz.prog 13 args W fun e W' => e = .returned (.bool true) ∧ Go.Sx.Frame ⟨W, [], L2.ro⟩ W' := by
  rw [Tryz.params13] at hA hval
  obtain ⟨v0, v1, d0, d1, p0, p1, rfl, rfl, rfl, h0, h1⟩ := trodAll_two hA
  obtain ⟨n1, q1⟩ := par_int (base := 0) und24 (hval 1 24 v1 rfl rfl) h1
  rcases par_flats (base := 0) (f := 9) und69 flat4 cells4 (by decide) (hval 0 69 v0 rfl rfl) h0 with q0 | ⟨e0, q0⟩
  · exact law_calls (cellCount_holds_n) Tryz.func13 (show Tryz.f13.body = some _ from rfl) (by kernel_rfl) (.cons q0 (.cons q1 .none)) trivial (ro_of_laid hL)
  · exact law_calls (cellCount_holds) Tryz.func13 (show Tryz.f13.body = some _ from rfl) (by kernel_rfl) (.cons q0 (.cons q1 .none)) trivial (ro_of_laid hL)
set_option maxHeartbeats 1000000 in
theorem cellCount_lifted (os : Os) (started : os.Started) (H : Type) (enc : TypeId × Value → H) :
    ReturnsInHanded {} Tryz.checked os 13 .any (fun w args => (Rows.cellCountSpec.pre enc Tryz.prog Tryz.f13 [] false w args ∧ laidMetH Tryz.prog laid1 w) ∧ sizedMet enc Tryz.prog Tryz.f13 (OpenSpec.ofChange Rows.cellCountSpec) false w args)
      (Rows.cellCountSpec.post enc Tryz.prog Tryz.f13 false true false false) := by
  refine returnsInHanded_of_change_and (C := Tryz.checked) (X := fun w _ => laidMetH Tryz.prog laid1 w) (fun _ _ _ hh h => h.of_heap hh) Tryz.own started (by kernel_rfl) Tryz.func13
    (ChangeSpec.witness_at (enc := enc) (C := Tryz.checked) (os := os) (X := fun w _ => laidMetH Tryz.prog laid1 w) false (laidWorld os) #[.slice none 0 0, .int .u64 0] 8 rfl (by kernel_rfl) (by kernel_rfl) (by kernel_rfl) (by kernel_rfl) (by kernel_rfl) (laidWorld_met os _)) ?_
  intro W base args ds gs before hval0 hW _ _ hL _
  have hval : ∀ (j : Nat) t v, Tryz.f13.params[j]? = some t → args[j]? = some v → Value.okWide Tryz.prog W .any base t v := hval0
  have hW' := hW
  obtain ⟨p, q, hA0, hV0, rfl, hfz, hnd⟩ := hW
  have hcall := cellCount_calls (enc := enc) hval hA0 hL
  refine Calls.mono hcall ?_
  rintro e W' ⟨rfl, hfr⟩
  exact ⟨_, rfl, post_kept Tryz.laidOut (by kernel_rfl) rfl rfl und4 hW' hfr (by
    have hg : gs = [] := by cases gs with | nil => rfl | cons g r => exact absurd hV0 (by intro h; cases h)
    subst hg
    have hA1 : DataW.TrodAll enc Tryz.prog W 0 (fun _ => true) true Tryz.f13.params.toList args.toList ds p := hA0
    rw [Tryz.params13] at hA1
    obtain ⟨v0, v1, d0, d1, p0, p1, ea, rfl, ec, h0, h1⟩ := trodAll_two hA1
    rfl)⟩

theorem cellCount_row : Rows.CellCountSaid :=
  OpenClaim.holds_of_wide 13 Tryz.f13 rfl rfl rfl rfl rfl rfl rfl ⟨rfl, rfl, rfl, rfl, rfl⟩ rfl rfl rfl rfl rfl (by kernel_rfl) Tryz.func13 (restFacts.2 _ _ _ _ _ Tryz.mayEnter Tryz.liftsFinal Tryz.make (by kernel_rfl))
    (of_decide_eq_true (by kernel_rfl)) (by unfold Func.isWrapper; rw [if_neg (of_decide_eq_false (by kernel_rfl))]; exact ⟨rfl, rfl⟩)
    (fun os started H enc _ => cellCount_lifted os started H enc)
theorem cellCount_card : Rows.CellCountCardSaid :=
  Claim7.holds_tied_plain_at .later [] [.handle] true (true, "8c0441bbc8609432f713c1c89f5af20e6af72254f1482b9eed96a33066278ab6") true
    cellCount_row (fun _ h => by cases h) (by kernel_rfl) (fun _ h => by cases h) cellCount_row_tie rfl ⟨rfl, rfl⟩ Tryz.mainIs rfl
    (fun f fn hf hfn => by
      obtain rfl : f = 13 := Option.some.inj ((show Tryz.prog.funcNamed "messuage/messuagelaw2.CellCount" = some 13 by kernel_rfl).symm.trans hf) |>.symm
      obtain rfl : fn = Tryz.f13 := (Option.some.inj (Tryz.func13.symm.trans hfn)).symm
      exact ⟨by kernel_rfl, fun j t ht => by
        rw [Tryz.params13] at ht
        rcases j with _ | _ | j
        · obtain rfl : 69 = t := by simpa using ht
          exact (show Tryz.prog.wantsStandIn 69 = false by kernel_rfl)
        · obtain rfl : 24 = t := by simpa using ht
          exact (show Tryz.prog.wantsStandIn 24 = false by kernel_rfl)
        · simp at ht⟩)
    (by kernel_rfl)
#print axioms cellCount_card
end Go.Proofs.YthjfkblnbecjgaaGreatDoor
