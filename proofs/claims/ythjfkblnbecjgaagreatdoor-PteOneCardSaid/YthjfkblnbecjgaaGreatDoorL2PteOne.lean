/- The statement messuagelaw2.PteOne of the seat: for every input the law returns true; the condition: errors.errorType is as the program lays it. -/
import Derived.Test.YthjfkblnbecjgaaGreatDoorL2Kw
import Derived.Test.YthjfkblnbecjgaaGreatDoorL2Kg
import Derived.Test.YthjfkblnbecjgaaGreatDoorSxM7
set_option linter.unusedVariables false
open Go Go.Sx
namespace Go.Proofs.YthjfkblnbecjgaaGreatDoor
open Go.ChangeShapes Go.WideShapes Go.RowKit
set_option maxRecDepth 100000

noncomputable def PteOne_t : Tree := .call 25 (L2.yes L2.f_messuagelaw2_begun).rel [] [] 0 0 (.letI (.rem (.v 6) (.c 64)) (.letI (.add (.v 7) (.c 64)) (.letI (.rem (.v 8) (.c 64)) (.call 52 (L2.put_ 52).rel [.v 0, .v 1, .v 2] [] 2 0 (.call 52 (L2.put_ 52).rel [.v 3, .v 4, .v 5] [] 2 0 (.ite (.v 11) (.ite (.v 13) (.letI (.cmp .eql (.v 10) (.v 12)) (.letI (.cmp .eql (.v 0) (.v 3)) (.letI (.cmp .eql (.v 1) (.v 4)) (.letI (.cmp .eql (.v 2) (.v 5)) (.letI (.pick (.v 17) (.c 1) (.c 0)) (.letI (.pick (.v 16) (.v 18) (.c 0)) (.letI (.pick (.v 15) (.v 19) (.c 0)) (.letI (.not (.v 14)) (.letI (.not (.v 20)) (.letI (.cmp .neq (.v 21) (.v 22)) (.ite (.v 23) (.fail 180) (.letI (.shl .u64 (.c 1) (.v 9)) (.letI (.bit .xor .u64 (.v 10) (.v 24)) (.need .geq (.v 25) (.c 0) (.need .leq (.v 25) (.c 18446744073709551615) (.call 53 (L2.get_ 53).rel [.v 25] [] 4 0 (.letI (.not (.v 11)) (.ite (.v 30) (.done [] []) (.letI (.not (.v 29)) (.ite (.v 31) (.done [] []) (.letI (.cmp .eql (.v 0) (.v 26)) (.letI (.cmp .eql (.v 1) (.v 27)) (.letI (.cmp .eql (.v 2) (.v 28)) (.letI (.pick (.v 34) (.c 1) (.c 0)) (.letI (.pick (.v 33) (.v 35) (.c 0)) (.letI (.pick (.v 32) (.v 36) (.c 0)) (.letI (.not (.v 37)) (.need .neq (.v 38) (.c 0) (.done [] []))))))))))))))))))))))))))))) (.letI (.shl .u64 (.c 1) (.v 9)) (.letI (.bit .xor .u64 (.v 10) (.v 14)) (.need .geq (.v 15) (.c 0) (.need .leq (.v 15) (.c 18446744073709551615) (.call 53 (L2.get_ 53).rel [.v 15] [] 4 0 (.letI (.not (.v 11)) (.ite (.v 20) (.done [] []) (.letI (.not (.v 19)) (.ite (.v 21) (.done [] []) (.letI (.cmp .eql (.v 0) (.v 16)) (.letI (.cmp .eql (.v 1) (.v 17)) (.letI (.cmp .eql (.v 2) (.v 18)) (.letI (.pick (.v 24) (.c 1) (.c 0)) (.letI (.pick (.v 23) (.v 25) (.c 0)) (.letI (.pick (.v 22) (.v 26) (.c 0)) (.letI (.not (.v 27)) (.need .neq (.v 28) (.c 0) (.done [] []))))))))))))))))))) (.letI (.shl .u64 (.c 1) (.v 9)) (.letI (.bit .xor .u64 (.v 10) (.v 14)) (.need .geq (.v 15) (.c 0) (.need .leq (.v 15) (.c 18446744073709551615) (.call 53 (L2.get_ 53).rel [.v 15] [] 4 0 (.letI (.not (.v 11)) (.ite (.v 20) (.done [] []) (.letI (.not (.v 19)) (.ite (.v 21) (.done [] []) (.letI (.cmp .eql (.v 0) (.v 16)) (.letI (.cmp .eql (.v 1) (.v 17)) (.letI (.cmp .eql (.v 2) (.v 18)) (.letI (.pick (.v 24) (.c 1) (.c 0)) (.letI (.pick (.v 23) (.v 25) (.c 0)) (.letI (.pick (.v 22) (.v 26) (.c 0)) (.letI (.not (.v 27)) (.need .neq (.v 28) (.c 0) (.done [] []))))))))))))))))))))))))
theorem PteOne_tree : (lawSpec 12 [.agg L2.ks3, .agg L2.ks3, .one (.i .i64)]).exe Tryz.prog (withS (L2.cfg2 Tryz.prog) [L2.kind_ 39, L2.kind_ 40, L2.check_ 26, L2.check_ 27, L2.args_ 43, L2.args_ 44, L2.within_ 56, L2.within_ 57, L2.lets_ 58, L2.lets_ 59, L2.put_ 52, L2.put_ 77, L2.get_ 53, L2.get_ 78]) [] 20 200 = PteOne_t := by kernel_rfl
theorem PteOne_vc (Q : List Int → List (List Int) → Prop) (v0 v1 v2 v3 v4 v5 v6 : Int) : PteOne_t.dn ⟨Q, []⟩ 7 [v6, v5, v4, v3, v2, v1, v0] 0 [] = ((L2.yes L2.f_messuagelaw2_begun).rel.pre [] [] ∧
((L2.yes L2.f_messuagelaw2_begun).rel.post [] [] [] [] → ∀ v7 : Int, v7 = (v6).tmod (64 : Int) → ∀ v8 : Int, v8 = v7 + (64 : Int) → ∀ v9 : Int, v9 = (v8).tmod (64 : Int) → (L2.put_ 52).rel.pre [v0, v1, v2] [] ∧
(∀ v10 : Int, ∀ v11 : Int, (L2.put_ 52).rel.post [v0, v1, v2] [] [v10, v11] [] → (L2.put_ 52).rel.pre [v3, v4, v5] [] ∧
(∀ v12 : Int, ∀ v13 : Int, (L2.put_ 52).rel.post [v3, v4, v5] [] [v12, v13] [] → (v11 ≠ 0 → (v13 ≠ 0 → ∀ v14 : Int, v14 = b2i (v10 == v12) → ∀ v15 : Int, v15 = b2i (v0 == v3) → ∀ v16 : Int, v16 = b2i (v1 == v4) → ∀ v17 : Int, v17 = b2i (v2 == v5) → ∀ v18 : Int, v18 = (if v17 = 0 then (0 : Int) else (1 : Int)) → ∀ v19 : Int, v19 = (if v16 = 0 then (0 : Int) else v18) → ∀ v20 : Int, v20 = (if v15 = 0 then (0 : Int) else v19) → ∀ v21 : Int, v21 = b2i (v14 == 0) → ∀ v22 : Int, v22 = b2i (v20 == 0) → ((v21 ≠ v22) → False) ∧
((v21 = v22) → ∀ v24 : Int, v24 = IntKind.wrap .u64 ((1 : Int) * 2 ^ (min (v9).toNat (IntKind.bits .u64))) → ∀ v25 : Int, v25 = bitDen .xor .u64 v10 v24 → ((0 : Int) ≤ v25) ∧ (v25 ≤ (18446744073709551615 : Int)) ∧ (L2.get_ 53).rel.pre [v25] [] ∧
(∀ v26 : Int, ∀ v27 : Int, ∀ v28 : Int, ∀ v29 : Int, (L2.get_ 53).rel.post [v25] [] [v26, v27, v28, v29] [] → ∀ v30 : Int, v30 = b2i (v11 == 0) → (v30 ≠ 0 → Q [] []) ∧
(v30 = 0 → ∀ v31 : Int, v31 = b2i (v29 == 0) → (v31 ≠ 0 → Q [] []) ∧
(v31 = 0 → ∀ v32 : Int, v32 = b2i (v0 == v26) → ∀ v33 : Int, v33 = b2i (v1 == v27) → ∀ v34 : Int, v34 = b2i (v2 == v28) → ∀ v35 : Int, v35 = (if v34 = 0 then (0 : Int) else (1 : Int)) → ∀ v36 : Int, v36 = (if v33 = 0 then (0 : Int) else v35) → ∀ v37 : Int, v37 = (if v32 = 0 then (0 : Int) else v36) → ∀ v38 : Int, v38 = b2i (v37 == 0) → (v38 ≠ (0 : Int)) ∧ Q [] []))))) ∧
(v13 = 0 → ∀ v14 : Int, v14 = IntKind.wrap .u64 ((1 : Int) * 2 ^ (min (v9).toNat (IntKind.bits .u64))) → ∀ v15 : Int, v15 = bitDen .xor .u64 v10 v14 → ((0 : Int) ≤ v15) ∧ (v15 ≤ (18446744073709551615 : Int)) ∧ (L2.get_ 53).rel.pre [v15] [] ∧
(∀ v16 : Int, ∀ v17 : Int, ∀ v18 : Int, ∀ v19 : Int, (L2.get_ 53).rel.post [v15] [] [v16, v17, v18, v19] [] → ∀ v20 : Int, v20 = b2i (v11 == 0) → (v20 ≠ 0 → Q [] []) ∧
(v20 = 0 → ∀ v21 : Int, v21 = b2i (v19 == 0) → (v21 ≠ 0 → Q [] []) ∧
(v21 = 0 → ∀ v22 : Int, v22 = b2i (v0 == v16) → ∀ v23 : Int, v23 = b2i (v1 == v17) → ∀ v24 : Int, v24 = b2i (v2 == v18) → ∀ v25 : Int, v25 = (if v24 = 0 then (0 : Int) else (1 : Int)) → ∀ v26 : Int, v26 = (if v23 = 0 then (0 : Int) else v25) → ∀ v27 : Int, v27 = (if v22 = 0 then (0 : Int) else v26) → ∀ v28 : Int, v28 = b2i (v27 == 0) → (v28 ≠ (0 : Int)) ∧ Q [] []))))) ∧
(v11 = 0 → ∀ v14 : Int, v14 = IntKind.wrap .u64 ((1 : Int) * 2 ^ (min (v9).toNat (IntKind.bits .u64))) → ∀ v15 : Int, v15 = bitDen .xor .u64 v10 v14 → ((0 : Int) ≤ v15) ∧ (v15 ≤ (18446744073709551615 : Int)) ∧ (L2.get_ 53).rel.pre [v15] [] ∧
(∀ v16 : Int, ∀ v17 : Int, ∀ v18 : Int, ∀ v19 : Int, (L2.get_ 53).rel.post [v15] [] [v16, v17, v18, v19] [] → ∀ v20 : Int, v20 = b2i (v11 == 0) → (v20 ≠ 0 → Q [] []) ∧
(v20 = 0 → ∀ v21 : Int, v21 = b2i (v19 == 0) → (v21 ≠ 0 → Q [] []) ∧
(v21 = 0 → ∀ v22 : Int, v22 = b2i (v0 == v16) → ∀ v23 : Int, v23 = b2i (v1 == v17) → ∀ v24 : Int, v24 = b2i (v2 == v18) → ∀ v25 : Int, v25 = (if v24 = 0 then (0 : Int) else (1 : Int)) → ∀ v26 : Int, v26 = (if v23 = 0 then (0 : Int) else v25) → ∀ v27 : Int, v27 = (if v22 = 0 then (0 : Int) else v26) → ∀ v28 : Int, v28 = b2i (v27 == 0) → (v28 ≠ (0 : Int)) ∧ Q [] [])))))))) := by kernel_rfl
set_option maxHeartbeats 4000000 in
theorem pteOne_holds0 : (lawSpec 12 [.agg L2.ks3, .agg L2.ks3, .one (.i .i64)]).Holds Tryz.prog L2.ro := FSpec.holdsV (cfg := withS (L2.cfg2 Tryz.prog) [L2.kind_ 39, L2.kind_ 40, L2.check_ 26, L2.check_ 27, L2.args_ 43, L2.args_ 44, L2.within_ 56, L2.within_ 57, L2.lets_ 58, L2.lets_ 59, L2.put_ 52, L2.put_ 77, L2.get_ 53, L2.get_ 78]) [] 20 200 (withS_ok cfg2_ok ⟨wKind_holds, rKind_holds, wCheck_holds, rCheck_holds, wArgs_holds, rArgs_holds, pWithin_holds, rWithin_holds, pLets_holds, rLets_holds, pPut_holds, rPte_holds, pGet_holds, rGet_holds, trivial⟩) mixed (t := PteOne_t) PteOne_tree (by
  show ∀ (v0 v1 v2 v3 v4 v5 v6 : Int) , _
  intro v0 v1 v2 v3 v4 v5 v6  hp hr hl
  replace hr : ((-9223372036854775808 : Int) ≤ v0 ∧ v0 ≤ (9223372036854775807 : Int)) ∧ ((-9223372036854775808 : Int) ≤ v1 ∧ v1 ≤ (9223372036854775807 : Int)) ∧ ((-9223372036854775808 : Int) ≤ v2 ∧ v2 ≤ (9223372036854775807 : Int)) ∧ ((-9223372036854775808 : Int) ≤ v3 ∧ v3 ≤ (9223372036854775807 : Int)) ∧ ((-9223372036854775808 : Int) ≤ v4 ∧ v4 ≤ (9223372036854775807 : Int)) ∧ ((-9223372036854775808 : Int) ≤ v5 ∧ v5 ≤ (9223372036854775807 : Int)) ∧ ((-9223372036854775808 : Int) ≤ v6 ∧ v6 ≤ (9223372036854775807 : Int)) ∧ True := hr
  replace hp : True := hp
  show PteOne_t.dn ⟨_, []⟩ 7 [v6, v5, v4, v3, v2, v1, v0] 0 []
  rw [PteOne_vc]
  show ((L2.yes L2.f_messuagelaw2_begun).rel.pre [] [] ∧ _)
  refine ⟨trivial, fun _ => ?_⟩
  simp only [fnSpec_post, fnSpec_pre, true_and, List.cons.injEq, and_true, List.getD_cons_zero, List.getD_cons_succ, and_imp]
  intro v7 e7 v8 e8 v9 e9 v10 v11 e10 e11 v12 v13 e12 e13
  have hb : 0 ≤ v9 ∧ v9 < 64 := by
    have := modN v6 64 (by omega)
    subst e9 e8 e7; exact this
  have h10 : 0 ≤ v10 ∧ v10 ≤ 65535 := by
    rw [e10]
    cases hp : pteOk v0 v1 v2 with
    | false => rw [pteN_bad hp]; omega
    | true => rw [pteN_of hp]; rw [pteOk_iff] at hp; split <;> omega
  -- the word with one bit turned
  have turned : ∀ c w : Int, c = IntKind.wrap .u64 (1 * 2 ^ (min v9.toNat (IntKind.bits .u64))) → w = bitDen .xor .u64 v10 c → 0 ≤ w ∧ w ≤ 18446744073709551615 ∧ (pteOk v0 v1 v2 = true → getOk w = true → ¬ (v0 = getF w ∧ v1 = getS w ∧ v2 = getR w)) := by
    intro c w hc hw
    have hr := bitDen_range .xor .u64 v10 c
    have hne : w ≠ v10 := by rw [hw]; exact xor_ne h10.1 (by omega) (by rw [hc]; exact shl_ne hb.1 hb.2)
    have hr' : (0 : Int) ≤ bitDen .xor .u64 v10 c ∧ bitDen .xor .u64 v10 c ≤ 18446744073709551615 := hr
    refine ⟨by rw [hw]; exact hr'.1, by rw [hw]; exact hr'.2, fun h1 h2 h3 => hne ?_⟩
    have := (put_get h2).2
    rw [← h3.1, ← h3.2.1, ← h3.2.2] at this
    rw [e10, this]
  have inj := @pteN_inj v0 v1 v2 v3 v4 v5
  have tail : ∀ c w : Int, c = IntKind.wrap .u64 (1 * 2 ^ (min v9.toNat (IntKind.bits .u64))) → w = bitDen .xor .u64 v10 c → 0 ≤ w ∧ w ≤ 18446744073709551615 ∧
      ∀ a b d e : Int, a = getF w → b = getS w → d = getR w → e = b2i (getOk w) → ∀ o : Int, o = b2i (v11 == 0) → (o ≠ 0 → True) ∧ (o = 0 → ∀ q : Int, q = b2i (e == 0) → (q ≠ 0 → True) ∧
        (q = 0 → ∀ r : Int, r = b2i (v0 == a) → ∀ s : Int, s = b2i (v1 == b) → ∀ t : Int, t = b2i (v2 == d) → ∀ x : Int, x = (if t = 0 then 0 else 1) → ∀ y : Int, y = (if s = 0 then 0 else x) → ∀ z : Int, z = (if r = 0 then 0 else y) → ∀ u : Int, u = b2i (z == 0) → u ≠ 0 ∧ True)) := by
    intro c w hc hw
    obtain ⟨t1, t2, t3⟩ := turned c w hc hw
    refine ⟨t1, t2, ?_⟩
    intro a b d e ha hb' hd he o ho
    refine ⟨fun _ => trivial, fun ho0 q hq => ⟨fun _ => trivial, fun hq0 r hr s hs t ht x hx y hy z hz u hu => ⟨?_, trivial⟩⟩⟩
    have h1 : pteOk v0 v1 v2 = true := by
      rw [ho, e11] at ho0
      revert ho0
      cases pteOk v0 v1 v2 <;> simp [b2i]
    have h2 : getOk w = true := by
      rw [hq, he] at hq0
      revert hq0
      cases getOk w <;> simp [b2i]
    have h3 := t3 h1 h2
    subst ha hb' hd hz hy hx hr hs ht
    rw [hu, eq3, b2i_zero]
    intro h0
    cases hB : (v0 == getF w && (v1 == getS w && v2 == getR w)) with
    | false => rw [hB] at h0; exact absurd h0 (by decide)
    | true =>
      simp only [Bool.and_eq_true, beq_iff_eq] at hB
      exact h3 hB
  refine ⟨fun c1 => ⟨fun c2 => ?_, fun c2 => ?_⟩, fun c1 => ?_⟩
  · intro v14 e14 v15 e15 v16 e16 v17 e17 v18 e18 v19 e19 v20 e20 v21 e21 v22 e22
    have hp : pteOk v0 v1 v2 = true := by rw [e11] at c1; revert c1; cases pteOk v0 v1 v2 <;> simp [b2i]
    have hq : pteOk v3 v4 v5 = true := by rw [e13] at c2; revert c2; cases pteOk v3 v4 v5 <;> simp [b2i]
    have hi := inj hp hq
    refine ⟨fun c3 => c3 ?_, fun c3 => ?_⟩
    · have hB : (v10 == v12) = (v0 == v3 && (v1 == v4 && v2 == v5)) := by
        rw [Bool.eq_iff_iff]
        simp only [Bool.and_eq_true, beq_iff_eq]
        rw [e10, e12]; exact hi
      rw [e21, e22, e14, e20, e19, e18, e17, e16, e15, eq3, hB]
    · intro v24 e24 v25 e25
      have := tail v24 v25 e24 e25
      exact ⟨this.1, this.2.1, this.2.2⟩
  · intro v14 e14 v15 e15
    have := tail v14 v15 e14 e15
    exact ⟨this.1, this.2.1, this.2.2⟩
  · intro v14 e14 v15 e15
    have := tail v14 v15 e14 e15
    exact ⟨this.1, this.2.1, this.2.2⟩)
theorem pteOne_holds : ((lawSpec 12 [.agg L2.ks3, .agg L2.ks3, .one (.i .i64)]).withPre fun _ => True).Holds Tryz.prog L2.ro := holds_withPre _ pteOne_holds0

theorem pteOne_calls {H : Type} {enc : TypeId × Value → H} {W : World} {base : Nat} {args : Array Value} {ds : List (DataW H)} {p : List MemPlace} (hval : ∀ (j : Nat) t v, Tryz.f12.params[j]? = some t → args[j]? = some v → Value.okWide Tryz.prog W .any base t v)
    (hA : DataW.TrodAll enc Tryz.prog W 0 (fun _ => true) true Tryz.f12.params.toList args.toList ds p) (hL : laidMetH Tryz.prog laid1 W) : Calls Tryz.prog 12 args W fun e W' => e = .returned (.bool true) ∧ Go.Sx.Frame ⟨W, [], L2.ro⟩ W' := by
  rw [Tryz.params12] at hA hval
  obtain ⟨v0, v1, v2, d0, d1, d2, p0, p1, p2, rfl, rfl, rfl, h0, h1, h2⟩ := trodAll_three hA
  obtain ⟨e0, q0⟩ := par_flat (base := 0) (f := 9) (by first | exact agg37 | rw [und37]) flat37 (hval 0 37 v0 rfl rfl) h0
  obtain ⟨e1, q1⟩ := par_flat (base := 0) (f := 9) (by first | exact agg37 | rw [und37]) flat37 (hval 1 37 v1 rfl rfl) h1
  obtain ⟨n2, q2⟩ := par_int (base := 0) und3 (hval 2 3 v2 rfl rfl) h2
  exact law_calls (pteOne_holds) Tryz.func12 (show Tryz.f12.body = some _ from rfl) (by kernel_rfl) (.cons q0 (.cons q1 (.cons q2 .none))) trivial (ro_of_laid hL)
set_option maxHeartbeats 1000000 in
theorem pteOne_lifted (os : Os) (started : os.Started) (H : Type) (enc : TypeId × Value → H) :
    ReturnsInHanded {} Tryz.checked os 12 .any (fun w args => (Rows.pteOneSpec.pre enc Tryz.prog Tryz.f12 [] false w args ∧ laidMetH Tryz.prog laid1 w) ∧ sizedMet enc Tryz.prog Tryz.f12 (OpenSpec.ofChange Rows.pteOneSpec) false w args)
      (Rows.pteOneSpec.post enc Tryz.prog Tryz.f12 false true false false) := by
  refine returnsInHanded_of_change_and (C := Tryz.checked) (X := fun w _ => laidMetH Tryz.prog laid1 w) (fun _ _ _ hh h => h.of_heap hh) Tryz.own started (by kernel_rfl) Tryz.func12
    (ChangeSpec.witness_at (enc := enc) (C := Tryz.checked) (os := os) (X := fun w _ => laidMetH Tryz.prog laid1 w) false (laidWorld os) #[.agg #[.int .i64 0, .int .i64 0, .int .i64 0], .agg #[.int .i64 0, .int .i64 0, .int .i64 0], .int .i64 0] 8 rfl (by kernel_rfl) (by kernel_rfl) (by kernel_rfl) (by kernel_rfl) (by kernel_rfl) (laidWorld_met os _)) ?_
  intro W base args ds gs before hval0 hW _ _ hL _
  have hval : ∀ (j : Nat) t v, Tryz.f12.params[j]? = some t → args[j]? = some v → Value.okWide Tryz.prog W .any base t v := hval0
  have hW' := hW
  obtain ⟨p, q, hA0, hV0, rfl, hfz, hnd⟩ := hW
  have hcall := pteOne_calls (enc := enc) hval hA0 hL
  refine Calls.mono hcall ?_
  rintro e W' ⟨rfl, hfr⟩
  exact ⟨_, rfl, post_kept Tryz.laidOut (by kernel_rfl) rfl rfl und4 hW' hfr (by
    have hg : gs = [] := by cases gs with | nil => rfl | cons g r => exact absurd hV0 (by intro h; cases h)
    subst hg
    have hA1 : DataW.TrodAll enc Tryz.prog W 0 (fun _ => true) true Tryz.f12.params.toList args.toList ds p := hA0
    rw [Tryz.params12] at hA1
    obtain ⟨v0, v1, v2, d0, d1, d2, p0, p1, p2, ea, rfl, ec, h0, h1, h2⟩ := trodAll_three hA1
    rfl)⟩

theorem pteOne_row : Rows.PteOneSaid :=
  OpenClaim.holds_of_wide 12 Tryz.f12 rfl rfl rfl rfl rfl rfl rfl ⟨rfl, rfl, rfl, rfl, rfl⟩ rfl rfl rfl rfl rfl (by kernel_rfl) Tryz.func12 (restFacts.2 _ _ _ _ _ Tryz.mayEnter Tryz.liftsFinal Tryz.make (by kernel_rfl))
    (of_decide_eq_true (by kernel_rfl)) (by unfold Func.isWrapper; rw [if_neg (of_decide_eq_false (by kernel_rfl))]; exact ⟨rfl, rfl⟩)
    (fun os started H enc _ => pteOne_lifted os started H enc)
theorem pteOne_card : Rows.PteOneCardSaid :=
  Claim7.holds_tied_plain_at .later [] [.handle] true (true, "8c0441bbc8609432f713c1c89f5af20e6af72254f1482b9eed96a33066278ab6") true
    pteOne_row (fun _ h => by cases h) (by kernel_rfl) (fun _ h => by cases h) pteOne_row_tie rfl ⟨rfl, rfl⟩ Tryz.mainIs rfl
    (fun f fn hf hfn => by
      obtain rfl : f = 12 := Option.some.inj ((show Tryz.prog.funcNamed "messuage/messuagelaw2.PteOne" = some 12 by kernel_rfl).symm.trans hf) |>.symm
      obtain rfl : fn = Tryz.f12 := (Option.some.inj (Tryz.func12.symm.trans hfn)).symm
      exact ⟨by kernel_rfl, fun j t ht => by
        rw [Tryz.params12] at ht
        rcases j with _ | _ | _ | j
        · obtain rfl : 37 = t := by simpa using ht
          exact (show Tryz.prog.wantsStandIn 37 = false by kernel_rfl)
        · obtain rfl : 37 = t := by simpa using ht
          exact (show Tryz.prog.wantsStandIn 37 = false by kernel_rfl)
        · obtain rfl : 3 = t := by simpa using ht
          exact (show Tryz.prog.wantsStandIn 3 = false by kernel_rfl)
        · simp at ht⟩)
    (by kernel_rfl)
#print axioms pteOne_card
end Go.Proofs.YthjfkblnbecjgaaGreatDoor
