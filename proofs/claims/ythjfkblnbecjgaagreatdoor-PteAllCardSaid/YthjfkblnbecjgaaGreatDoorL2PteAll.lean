/- The statement messuagelaw2.PteAll of the seat: for every input the law returns true; the condition: errors.errorType is as the program lays it. -/
import Derived.Test.YthjfkblnbecjgaaGreatDoorL2Kw
import Derived.Test.YthjfkblnbecjgaaGreatDoorL2Kg
import Derived.Test.YthjfkblnbecjgaaGreatDoorSxM7
set_option linter.unusedVariables false
open Go Go.Sx
namespace Go.Proofs.YthjfkblnbecjgaaGreatDoor
open Go.ChangeShapes Go.WideShapes Go.RowKit
set_option maxRecDepth 100000

noncomputable def PteAll_t : Tree := .call 25 (L2.yes L2.f_messuagelaw2_begun).rel [] [] 0 0 (.call 52 (L2.put_ 52).rel [.v 3, .v 4, .v 5] [] 2 0 (.call 77 (L2.put_ 77).rel [.v 3, .v 4, .v 5] [] 2 0 (.call 53 (L2.get_ 53).rel [.v 6] [] 4 0 (.call 78 (L2.get_ 78).rel [.v 6] [] 4 0 (.call 53 (L2.get_ 53).rel [.v 7] [] 4 0 (.letI (.cmp .leq (.c 1) (.v 0)) (.ite (.v 23) (.letI (.cmp .leq (.v 0) (.c 3)) (.letI (.not (.v 24)) (.call 56 (L2.within_ 56).rel [.v 0, .v 1] [] 1 0 (.call 57 (L2.within_ 57).rel [.v 0, .v 1] [] 1 0 (.letI (.not (.v 26)) (.letI (.not (.v 27)) (.letI (.cmp .eql (.v 28) (.v 29)) (.ite (.v 30) (.call 58 (L2.lets_ 58).rel [.v 0, .v 2] [] 1 0 (.call 59 (L2.lets_ 59).rel [.v 0, .v 2] [] 1 0 (.letI (.not (.v 31)) (.letI (.not (.v 32)) (.letI (.cmp .eql (.v 33) (.v 34)) (.ite (.v 35) (.letI (.cmp .eql (.v 7) (.v 9)) (.ite (.v 36) (.letI (.not (.v 8)) (.letI (.not (.v 10)) (.letI (.cmp .eql (.v 37) (.v 38)) (.ite (.v 39) (.letI (.cmp .eql (.v 11) (.v 15)) (.letI (.cmp .eql (.v 12) (.v 16)) (.letI (.cmp .eql (.v 13) (.v 17)) (.letI (.pick (.v 42) (.c 1) (.c 0)) (.letI (.pick (.v 41) (.v 43) (.c 0)) (.letI (.pick (.v 40) (.v 44) (.c 0)) (.ite (.v 45) (.letI (.not (.v 14)) (.letI (.not (.v 18)) (.letI (.cmp .eql (.v 46) (.v 47)) (.ite (.v 48) (.ite (.v 37) (.done [] []) (.ite (.v 22) (.letI (.cmp .eql (.v 3) (.v 19)) (.letI (.cmp .eql (.v 4) (.v 20)) (.letI (.cmp .eql (.v 5) (.v 21)) (.letI (.pick (.v 51) (.c 1) (.c 0)) (.letI (.pick (.v 50) (.v 52) (.c 0)) (.letI (.pick (.v 49) (.v 53) (.c 0)) (.need .neq (.v 54) (.c 0) (.done [] [])))))))) (.fail 180))) (.fail 180))))) (.fail 180)))))))) (.fail 180))))) (.fail 180))) (.fail 180))))))) (.fail 180))))))))) (.call 56 (L2.within_ 56).rel [.v 0, .v 1] [] 1 0 (.call 57 (L2.within_ 57).rel [.v 0, .v 1] [] 1 0 (.letI (.not (.v 24)) (.letI (.not (.v 25)) (.letI (.cmp .eql (.v 26) (.v 27)) (.ite (.v 28) (.call 58 (L2.lets_ 58).rel [.v 0, .v 2] [] 1 0 (.call 59 (L2.lets_ 59).rel [.v 0, .v 2] [] 1 0 (.letI (.not (.v 29)) (.letI (.not (.v 30)) (.letI (.cmp .eql (.v 31) (.v 32)) (.ite (.v 33) (.letI (.cmp .eql (.v 7) (.v 9)) (.ite (.v 34) (.letI (.not (.v 8)) (.letI (.not (.v 10)) (.letI (.cmp .eql (.v 35) (.v 36)) (.ite (.v 37) (.letI (.cmp .eql (.v 11) (.v 15)) (.letI (.cmp .eql (.v 12) (.v 16)) (.letI (.cmp .eql (.v 13) (.v 17)) (.letI (.pick (.v 40) (.c 1) (.c 0)) (.letI (.pick (.v 39) (.v 41) (.c 0)) (.letI (.pick (.v 38) (.v 42) (.c 0)) (.ite (.v 43) (.letI (.not (.v 14)) (.letI (.not (.v 18)) (.letI (.cmp .eql (.v 44) (.v 45)) (.ite (.v 46) (.ite (.v 35) (.done [] []) (.ite (.v 22) (.letI (.cmp .eql (.v 3) (.v 19)) (.letI (.cmp .eql (.v 4) (.v 20)) (.letI (.cmp .eql (.v 5) (.v 21)) (.letI (.pick (.v 49) (.c 1) (.c 0)) (.letI (.pick (.v 48) (.v 50) (.c 0)) (.letI (.pick (.v 47) (.v 51) (.c 0)) (.need .neq (.v 52) (.c 0) (.done [] [])))))))) (.fail 180))) (.fail 180))))) (.fail 180)))))))) (.fail 180))))) (.fail 180))) (.fail 180))))))) (.fail 180))))))))))))))
theorem PteAll_tree : (lawSpec 20 [.one (.i .i64), .one (.i .i64), .one (.i .i64), .agg L2.ks3, .one (.i .u64)]).exe Tryz.prog (withS (L2.cfg2 Tryz.prog) [L2.kind_ 39, L2.kind_ 40, L2.check_ 26, L2.check_ 27, L2.args_ 43, L2.args_ 44, L2.within_ 56, L2.within_ 57, L2.lets_ 58, L2.lets_ 59, L2.put_ 52, L2.put_ 77, L2.get_ 53, L2.get_ 78]) [] 20 200 = PteAll_t := by kernel_rfl
theorem PteAll_vc (Q : List Int → List (List Int) → Prop) (v0 v1 v2 v3 v4 v5 v6 : Int) : PteAll_t.dn ⟨Q, []⟩ 7 [v6, v5, v4, v3, v2, v1, v0] 0 [] = ((L2.yes L2.f_messuagelaw2_begun).rel.pre [] [] ∧
((L2.yes L2.f_messuagelaw2_begun).rel.post [] [] [] [] → (L2.put_ 52).rel.pre [v3, v4, v5] [] ∧
(∀ v7 : Int, ∀ v8 : Int, (L2.put_ 52).rel.post [v3, v4, v5] [] [v7, v8] [] → (L2.put_ 77).rel.pre [v3, v4, v5] [] ∧
(∀ v9 : Int, ∀ v10 : Int, (L2.put_ 77).rel.post [v3, v4, v5] [] [v9, v10] [] → (L2.get_ 53).rel.pre [v6] [] ∧
(∀ v11 : Int, ∀ v12 : Int, ∀ v13 : Int, ∀ v14 : Int, (L2.get_ 53).rel.post [v6] [] [v11, v12, v13, v14] [] → (L2.get_ 78).rel.pre [v6] [] ∧
(∀ v15 : Int, ∀ v16 : Int, ∀ v17 : Int, ∀ v18 : Int, (L2.get_ 78).rel.post [v6] [] [v15, v16, v17, v18] [] → (L2.get_ 53).rel.pre [v7] [] ∧
(∀ v19 : Int, ∀ v20 : Int, ∀ v21 : Int, ∀ v22 : Int, (L2.get_ 53).rel.post [v7] [] [v19, v20, v21, v22] [] → (((1 : Int) ≤ v0) → ∀ v24 : Int, v24 = b2i (decide (v0 ≤ (3 : Int))) → ∀ v25 : Int, v25 = b2i (v24 == 0) → (L2.within_ 56).rel.pre [v0, v1] [] ∧
(∀ v26 : Int, (L2.within_ 56).rel.post [v0, v1] [] [v26] [] → (L2.within_ 57).rel.pre [v0, v1] [] ∧
(∀ v27 : Int, (L2.within_ 57).rel.post [v0, v1] [] [v27] [] → ∀ v28 : Int, v28 = b2i (v26 == 0) → ∀ v29 : Int, v29 = b2i (v27 == 0) → ((v28 = v29) → (L2.lets_ 58).rel.pre [v0, v2] [] ∧
(∀ v31 : Int, (L2.lets_ 58).rel.post [v0, v2] [] [v31] [] → (L2.lets_ 59).rel.pre [v0, v2] [] ∧
(∀ v32 : Int, (L2.lets_ 59).rel.post [v0, v2] [] [v32] [] → ∀ v33 : Int, v33 = b2i (v31 == 0) → ∀ v34 : Int, v34 = b2i (v32 == 0) → ((v33 = v34) → ((v7 = v9) → ∀ v37 : Int, v37 = b2i (v8 == 0) → ∀ v38 : Int, v38 = b2i (v10 == 0) → ((v37 = v38) → ∀ v40 : Int, v40 = b2i (v11 == v15) → ∀ v41 : Int, v41 = b2i (v12 == v16) → ∀ v42 : Int, v42 = b2i (v13 == v17) → ∀ v43 : Int, v43 = (if v42 = 0 then (0 : Int) else (1 : Int)) → ∀ v44 : Int, v44 = (if v41 = 0 then (0 : Int) else v43) → ∀ v45 : Int, v45 = (if v40 = 0 then (0 : Int) else v44) → (v45 ≠ 0 → ∀ v46 : Int, v46 = b2i (v14 == 0) → ∀ v47 : Int, v47 = b2i (v18 == 0) → ((v46 = v47) → (v37 ≠ 0 → Q [] []) ∧
(v37 = 0 → (v22 ≠ 0 → ∀ v49 : Int, v49 = b2i (v3 == v19) → ∀ v50 : Int, v50 = b2i (v4 == v20) → ∀ v51 : Int, v51 = b2i (v5 == v21) → ∀ v52 : Int, v52 = (if v51 = 0 then (0 : Int) else (1 : Int)) → ∀ v53 : Int, v53 = (if v50 = 0 then (0 : Int) else v52) → ∀ v54 : Int, v54 = (if v49 = 0 then (0 : Int) else v53) → (v54 ≠ (0 : Int)) ∧ Q [] []) ∧
(v22 = 0 → False))) ∧
((v46 ≠ v47) → False)) ∧
(v45 = 0 → False)) ∧
((v37 ≠ v38) → False)) ∧
((v7 ≠ v9) → False)) ∧
((v33 ≠ v34) → False)))) ∧
((v28 ≠ v29) → False)))) ∧
((v0 < (1 : Int)) → (L2.within_ 56).rel.pre [v0, v1] [] ∧
(∀ v24 : Int, (L2.within_ 56).rel.post [v0, v1] [] [v24] [] → (L2.within_ 57).rel.pre [v0, v1] [] ∧
(∀ v25 : Int, (L2.within_ 57).rel.post [v0, v1] [] [v25] [] → ∀ v26 : Int, v26 = b2i (v24 == 0) → ∀ v27 : Int, v27 = b2i (v25 == 0) → ((v26 = v27) → (L2.lets_ 58).rel.pre [v0, v2] [] ∧
(∀ v29 : Int, (L2.lets_ 58).rel.post [v0, v2] [] [v29] [] → (L2.lets_ 59).rel.pre [v0, v2] [] ∧
(∀ v30 : Int, (L2.lets_ 59).rel.post [v0, v2] [] [v30] [] → ∀ v31 : Int, v31 = b2i (v29 == 0) → ∀ v32 : Int, v32 = b2i (v30 == 0) → ((v31 = v32) → ((v7 = v9) → ∀ v35 : Int, v35 = b2i (v8 == 0) → ∀ v36 : Int, v36 = b2i (v10 == 0) → ((v35 = v36) → ∀ v38 : Int, v38 = b2i (v11 == v15) → ∀ v39 : Int, v39 = b2i (v12 == v16) → ∀ v40 : Int, v40 = b2i (v13 == v17) → ∀ v41 : Int, v41 = (if v40 = 0 then (0 : Int) else (1 : Int)) → ∀ v42 : Int, v42 = (if v39 = 0 then (0 : Int) else v41) → ∀ v43 : Int, v43 = (if v38 = 0 then (0 : Int) else v42) → (v43 ≠ 0 → ∀ v44 : Int, v44 = b2i (v14 == 0) → ∀ v45 : Int, v45 = b2i (v18 == 0) → ((v44 = v45) → (v35 ≠ 0 → Q [] []) ∧
(v35 = 0 → (v22 ≠ 0 → ∀ v47 : Int, v47 = b2i (v3 == v19) → ∀ v48 : Int, v48 = b2i (v4 == v20) → ∀ v49 : Int, v49 = b2i (v5 == v21) → ∀ v50 : Int, v50 = (if v49 = 0 then (0 : Int) else (1 : Int)) → ∀ v51 : Int, v51 = (if v48 = 0 then (0 : Int) else v50) → ∀ v52 : Int, v52 = (if v47 = 0 then (0 : Int) else v51) → (v52 ≠ (0 : Int)) ∧ Q [] []) ∧
(v22 = 0 → False))) ∧
((v44 ≠ v45) → False)) ∧
(v43 = 0 → False)) ∧
((v35 ≠ v36) → False)) ∧
((v7 ≠ v9) → False)) ∧
((v31 ≠ v32) → False)))) ∧
((v26 ≠ v27) → False))))))))))) := by kernel_rfl
set_option maxHeartbeats 4000000 in
theorem pteAll_holds0 : (lawSpec 20 [.one (.i .i64), .one (.i .i64), .one (.i .i64), .agg L2.ks3, .one (.i .u64)]).Holds Tryz.prog L2.ro := FSpec.holdsV (cfg := withS (L2.cfg2 Tryz.prog) [L2.kind_ 39, L2.kind_ 40, L2.check_ 26, L2.check_ 27, L2.args_ 43, L2.args_ 44, L2.within_ 56, L2.within_ 57, L2.lets_ 58, L2.lets_ 59, L2.put_ 52, L2.put_ 77, L2.get_ 53, L2.get_ 78]) [] 20 200 (withS_ok cfg2_ok ⟨wKind_holds, rKind_holds, wCheck_holds, rCheck_holds, wArgs_holds, rArgs_holds, pWithin_holds, rWithin_holds, pLets_holds, rLets_holds, pPut_holds, rPte_holds, pGet_holds, rGet_holds, trivial⟩) mixed (t := PteAll_t) PteAll_tree (by
  show ∀ (v0 v1 v2 v3 v4 v5 v6 : Int) , _
  intro v0 v1 v2 v3 v4 v5 v6  hp hr hl
  replace hr : ((-9223372036854775808 : Int) ≤ v0 ∧ v0 ≤ (9223372036854775807 : Int)) ∧ ((-9223372036854775808 : Int) ≤ v1 ∧ v1 ≤ (9223372036854775807 : Int)) ∧ ((-9223372036854775808 : Int) ≤ v2 ∧ v2 ≤ (9223372036854775807 : Int)) ∧ ((-9223372036854775808 : Int) ≤ v3 ∧ v3 ≤ (9223372036854775807 : Int)) ∧ ((-9223372036854775808 : Int) ≤ v4 ∧ v4 ≤ (9223372036854775807 : Int)) ∧ ((-9223372036854775808 : Int) ≤ v5 ∧ v5 ≤ (9223372036854775807 : Int)) ∧ ((0 : Int) ≤ v6 ∧ v6 ≤ (18446744073709551615 : Int)) ∧ True := hr
  replace hp : True := hp
  show PteAll_t.dn ⟨_, []⟩ 7 [v6, v5, v4, v3, v2, v1, v0] 0 []
  rw [PteAll_vc]
  show ((L2.yes L2.f_messuagelaw2_begun).rel.pre [] [] ∧ _)
  refine ⟨trivial, fun _ => ?_⟩
  simp only [fnSpec_post, fnSpec_pre, true_and, List.cons.injEq, and_true, List.getD_cons_zero, List.getD_cons_succ, and_imp]
  intro v7 v8 e7 e8 v9 v10 e9 e10 v11 v12 v13 v14 e11 e12 e13 e14 v15 v16 v17 v18 e15 e16 e17 e18 v19 v20 v21 v22 e19 e20 e21 e22
  have back : pteOk v3 v4 v5 = true → v19 = v3 ∧ v20 = v4 ∧ v21 = v5 ∧ v22 = 1 := by
    intro h
    have := get_put h
    subst e19 e20 e21 e22 e7
    simp [this, b2i]
  clear e19 e20 e21 e22
  subst e7 e8 e9 e10 e11 e12 e13 e14 e15 e16 e17 e18
  cases hp : pteOk v3 v4 v5 <;> simp only [hp] at back ⊢ <;> simp only [b2i] <;>
  (repeat' first | refine And.intro ?_ ?_ | intro _) <;>
  first | trivial | omega | grind)
theorem pteAll_holds : ((lawSpec 20 [.one (.i .i64), .one (.i .i64), .one (.i .i64), .agg L2.ks3, .one (.i .u64)]).withPre fun _ => True).Holds Tryz.prog L2.ro := holds_withPre _ pteAll_holds0

theorem pteAll_calls {H : Type} {enc : TypeId × Value → H} {W : World} {base : Nat} {args : Array Value} {ds : List (DataW H)} {p : List MemPlace} (hval : ∀ (j : Nat) t v, Tryz.f20.params[j]? = some t → args[j]? = some v → Value.okWide Tryz.prog W .any base t v)
    (hA : DataW.TrodAll enc Tryz.prog W 0 (fun _ => true) true Tryz.f20.params.toList args.toList ds p) (hL : laidMetH Tryz.prog laid1 W) : Calls Tryz.prog 20 args W fun e W' => e = .returned (.bool true) ∧ Go.Sx.Frame ⟨W, [], L2.ro⟩ W' := by
  rw [Tryz.params20] at hA hval
  obtain ⟨v0, v1, v2, v3, v4, d0, d1, d2, d3, d4, p0, p1, p2, p3, p4, rfl, rfl, rfl, h0, h1, h2, h3, h4⟩ := trodAll_five hA
  obtain ⟨n0, q0⟩ := par_int (base := 0) und3 (hval 0 3 v0 rfl rfl) h0
  obtain ⟨n1, q1⟩ := par_int (base := 0) und3 (hval 1 3 v1 rfl rfl) h1
  obtain ⟨n2, q2⟩ := par_int (base := 0) und3 (hval 2 3 v2 rfl rfl) h2
  obtain ⟨e3, q3⟩ := par_flat (base := 0) (f := 9) (by first | exact agg37 | rw [und37]) flat37 (hval 3 37 v3 rfl rfl) h3
  obtain ⟨n4, q4⟩ := par_int (base := 0) und24 (hval 4 24 v4 rfl rfl) h4
  exact law_calls (pteAll_holds) Tryz.func20 (show Tryz.f20.body = some _ from rfl) (by kernel_rfl) (.cons q0 (.cons q1 (.cons q2 (.cons q3 (.cons q4 .none))))) trivial (ro_of_laid hL)
set_option maxHeartbeats 1000000 in
theorem pteAll_lifted (os : Os) (started : os.Started) (H : Type) (enc : TypeId × Value → H) :
    ReturnsInHanded {} Tryz.checked os 20 .any (fun w args => (Rows.pteAllSpec.pre enc Tryz.prog Tryz.f20 [] false w args ∧ laidMetH Tryz.prog laid1 w) ∧ sizedMet enc Tryz.prog Tryz.f20 (OpenSpec.ofChange Rows.pteAllSpec) false w args)
      (Rows.pteAllSpec.post enc Tryz.prog Tryz.f20 false true false false) := by
  refine returnsInHanded_of_change_and (C := Tryz.checked) (X := fun w _ => laidMetH Tryz.prog laid1 w) (fun _ _ _ hh h => h.of_heap hh) Tryz.own started (by kernel_rfl) Tryz.func20
    (ChangeSpec.witness_at (enc := enc) (C := Tryz.checked) (os := os) (X := fun w _ => laidMetH Tryz.prog laid1 w) false (laidWorld os) #[.int .i64 0, .int .i64 0, .int .i64 0, .agg #[.int .i64 0, .int .i64 0, .int .i64 0], .int .u64 0] 8 rfl (by kernel_rfl) (by kernel_rfl) (by kernel_rfl) (by kernel_rfl) (by kernel_rfl) (laidWorld_met os _)) ?_
  intro W base args ds gs before hval0 hW _ _ hL _
  have hval : ∀ (j : Nat) t v, Tryz.f20.params[j]? = some t → args[j]? = some v → Value.okWide Tryz.prog W .any base t v := hval0
  have hW' := hW
  obtain ⟨p, q, hA0, hV0, rfl, hfz, hnd⟩ := hW
  have hcall := pteAll_calls (enc := enc) hval hA0 hL
  refine Calls.mono hcall ?_
  rintro e W' ⟨rfl, hfr⟩
  exact ⟨_, rfl, post_kept Tryz.laidOut (by kernel_rfl) rfl rfl und4 hW' hfr (by
    have hg : gs = [] := by cases gs with | nil => rfl | cons g r => exact absurd hV0 (by intro h; cases h)
    subst hg
    have hA1 : DataW.TrodAll enc Tryz.prog W 0 (fun _ => true) true Tryz.f20.params.toList args.toList ds p := hA0
    rw [Tryz.params20] at hA1
    obtain ⟨v0, v1, v2, v3, v4, d0, d1, d2, d3, d4, p0, p1, p2, p3, p4, ea, rfl, ec, h0, h1, h2, h3, h4⟩ := trodAll_five hA1
    rfl)⟩

theorem pteAll_row : Rows.PteAllSaid :=
  OpenClaim.holds_of_wide 20 Tryz.f20 rfl rfl rfl rfl rfl rfl rfl ⟨rfl, rfl, rfl, rfl, rfl⟩ rfl rfl rfl rfl rfl (by kernel_rfl) Tryz.func20 (restFacts.2 _ _ _ _ _ Tryz.mayEnter Tryz.liftsFinal Tryz.make (by kernel_rfl))
    (of_decide_eq_true (by kernel_rfl)) (by unfold Func.isWrapper; rw [if_neg (of_decide_eq_false (by kernel_rfl))]; exact ⟨rfl, rfl⟩)
    (fun os started H enc _ => pteAll_lifted os started H enc)
theorem pteAll_card : Rows.PteAllCardSaid :=
  Claim7.holds_tied_plain_at .later [] [.handle] true (true, "8c0441bbc8609432f713c1c89f5af20e6af72254f1482b9eed96a33066278ab6") true
    pteAll_row (fun _ h => by cases h) (by kernel_rfl) (fun _ h => by cases h) pteAll_row_tie rfl ⟨rfl, rfl⟩ Tryz.mainIs rfl
    (fun f fn hf hfn => by
      obtain rfl : f = 20 := Option.some.inj ((show Tryz.prog.funcNamed "messuage/messuagelaw2.PteAll" = some 20 by kernel_rfl).symm.trans hf) |>.symm
      obtain rfl : fn = Tryz.f20 := (Option.some.inj (Tryz.func20.symm.trans hfn)).symm
      exact ⟨by kernel_rfl, fun j t ht => by
        rw [Tryz.params20] at ht
        rcases j with _ | _ | _ | _ | _ | j
        · obtain rfl : 3 = t := by simpa using ht
          exact (show Tryz.prog.wantsStandIn 3 = false by kernel_rfl)
        · obtain rfl : 3 = t := by simpa using ht
          exact (show Tryz.prog.wantsStandIn 3 = false by kernel_rfl)
        · obtain rfl : 3 = t := by simpa using ht
          exact (show Tryz.prog.wantsStandIn 3 = false by kernel_rfl)
        · obtain rfl : 37 = t := by simpa using ht
          exact (show Tryz.prog.wantsStandIn 37 = false by kernel_rfl)
        · obtain rfl : 24 = t := by simpa using ht
          exact (show Tryz.prog.wantsStandIn 24 = false by kernel_rfl)
        · simp at ht⟩)
    (by kernel_rfl)
#print axioms pteAll_card
end Go.Proofs.YthjfkblnbecjgaaGreatDoor
