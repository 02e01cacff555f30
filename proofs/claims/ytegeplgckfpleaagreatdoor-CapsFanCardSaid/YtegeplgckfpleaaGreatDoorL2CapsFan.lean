/- The statement messuagelaw11.CapsFan of the seat: for every input the law returns true; the condition: errors.errorType is as the program lays it. -/
import Derived.Test.YtegeplgckfpleaaGreatDoorL2B
import Derived.Test.YtegeplgckfpleaaGreatDoorSxM7
import Derived.Test.YtegeplgckfpleaaGreatDoorL2Cr
import Derived.Test.YtegeplgckfpleaaGreatDoorL2Cd
import Derived.Test.YtegeplgckfpleaaGreatDoorL2Cx
set_option linter.unusedVariables false
set_option linter.unusedSimpArgs false
open Go Go.Sx
namespace Go.Proofs.YtegeplgckfpleaaGreatDoor
open Go.ChangeShapes Go.WideShapes Go.RowKit
set_option maxRecDepth 100000

noncomputable def CapsFan_t : Tree := .call 15 (Go.Sx.L2.yes Go.Sx.L2.f_messuagelaw11_begun).rel [] [] 0 0 (.letI (.rem (.v 0) (.c 7)) (.letI (.add (.v 2) (.c 7)) (.letI (.rem (.v 3) (.c 7)) (.letI (.add (.c 1) (.v 4)) (.letI (.rem (.v 1) (.v 5)) (.letI (.add (.v 6) (.v 5)) (.letI (.wr .i64 (.v 7)) (.letI (.rem (.v 8) (.v 5)) (.letL (.lit [.c (0), .c (0), .c (0), .c (0), .c (0), .c (0), .c (0), .c (0), .c (0), .c (0), .c (0), .c (0), .c (0), .c (0), .c (0), .c (0), .c (0), .c (0), .c (0), .c (0), .c (0), .c (0), .c (0), .c (0), .c (0), .c (0), .c (0), .c (0), .c (0), .c (0), .c (0), .c (0), .c (0), .c (0), .c (0), .c (0), .c (0), .c (0), .c (0), .c (0), .c (0), .c (0), .c (0), .c (0), .c (0), .c (0), .c (0), .c (0), .c (0), .c (0), .c (0), .c (0), .c (0), .c (0), .c (0), .c (0), .c (0), .c (0), .c (0), .c (0), .c (0), .c (0), .c (0), .c (0)]) (.call 25 (Go.Sx.L2.cRoot).rel [.c (2), .c (64), .c (1), .c (7), .c (4)] [0] 1 1 (.loop [.c (0)] [1] (.letI (.cmp .lss (.v 11) (.v 5)) (.ite (.v 12) (.call 26 (Go.Sx.L2.cDer).rel [.c (2), .c (64), .c (1), .c (7), .c (0), .v 11, .c (1)] [2] 1 1 (.letI (.cmp .neq (.v 13) (.c 0)) (.ite (.v 14) (.exit (.fail 180)) (.letI (.add (.v 11) (.c 1)) (.again [.v 15] [3]))))) (.exit (.need .geq (.v 9) (.c (-9223372036854775808)) (.need .leq (.v 9) (.c 9223372036854775807) (.call 43 (Go.Sx.L2.cDrop).rel [.c (2), .c (64), .c (0), .v 9] [2] 5 2 (.letI (.cmp .neq (.v 17) (.c 0)) (.ite (.v 18) (.fail 180) (.letI (.pick (.v 14) (.v 13) (.c 0)) (.letI (.cmp .neq (.v 19) (.c 1)) (.ite (.v 20) (.fail 180) (.need .neq (.v 14) (.c 0) (.need .lss (.c 0) (.v 13) (.need .lss (.c 0) (.v 15) (.letI (.get 3 (.c 0)) (.need .lss (.c 1) (.v 15) (.letI (.get 3 (.c 1)) (.letI (.cmp .eql (.v 21) (.c 0)) (.letI (.cmp .eql (.v 9) (.v 22)) (.letI (.pick (.v 24) (.c 1) (.c 0)) (.letI (.pick (.v 23) (.v 25) (.c 0)) (.letI (.not (.v 26)) (.ite (.v 27) (.fail 180) (.call 47 (Go.Sx.L2.cBelow).rel [.c (2), .c (64), .c (1), .c (7)] [4] 4 1 (.letI (.pick (.v 29) (.v 28) (.c 0)) (.letI (.sub (.v 5) (.c 1)) (.letI (.cmp .neq (.v 32) (.v 33)) (.ite (.v 34) (.fail 180) (.call 42 (Go.Sx.L2.cRevoke).rel [.c (2), .c (64), .c (1), .c (7)] [4] 5 2 (.call 29 (Go.Sx.L2.cAt).rel [.c (2), .c (64), .c (1), .c (7)] [7] 5 0 (.letI (.cmp .eql (.v 39) (.c 0)) (.ite (.v 45) (.letI (.pick (.v 36) (.v 35) (.c 0)) (.letI (.cmp .eql (.v 33) (.v 46)) (.ite (.v 47) (.ite (.v 44) (.call 49 (Go.Sx.L2.cOf).rel [.c (2), .c (64), .c (4)] [7] 4 1 (.letI (.pick (.v 49) (.v 48) (.c 0)) (.letI (.cmp .eql (.v 52) (.c 1)) (.need .neq (.v 53) (.c 0) (.done [] []))))) (.fail 180)) (.fail 180)))) (.fail 180))))))))))))))))))))))))))))))))))))))))))))
theorem CapsFan_tree : (lawSpec L2.f_messuagelaw11_CapsFan [.one (.i .i64), .one (.i .i64)]).exe Tryz.prog (withS (L2.cfgB Tryz.prog) [L2.cAt, L2.cRoot, L2.cDer, L2.cOf, L2.cBelow, L2.cRevoke, L2.cDrop]) [{ f := L2.f_messuagelaw11_CapsFan, reg := 9, ints := [(7, 0, 7)], lists := [(6, [0], some (-9223372036854775808, 9223372036854775807))] }] 20 200 = CapsFan_t := by kernel_rfl
theorem CapsFan_vc (Q : List Int → List (List Int) → Prop) (v0 v1 : Int) : CapsFan_t.dn ⟨Q, []⟩ 2 [v1, v0] 0 [] = ((Go.Sx.L2.yes Go.Sx.L2.f_messuagelaw11_begun).rel.pre [] [] ∧
((Go.Sx.L2.yes Go.Sx.L2.f_messuagelaw11_begun).rel.post [] [] [] [] → ∀ v2 : Int, v2 = (v0).tmod (7 : Int) → ∀ v3 : Int, v3 = v2 + (7 : Int) → ∀ v4 : Int, v4 = (v3).tmod (7 : Int) → ∀ v5 : Int, v5 = (1 : Int) + v4 → ∀ v6 : Int, v6 = (v1).tmod v5 → ∀ v7 : Int, v7 = v6 + v5 → ∀ v8 : Int, v8 = IntKind.wrap .i64 v7 → ∀ v9 : Int, v9 = (v8).tmod v5 → ∀ L0 : List Int, L0 = [(0 : Int), (0 : Int), (0 : Int), (0 : Int), (0 : Int), (0 : Int), (0 : Int), (0 : Int), (0 : Int), (0 : Int), (0 : Int), (0 : Int), (0 : Int), (0 : Int), (0 : Int), (0 : Int), (0 : Int), (0 : Int), (0 : Int), (0 : Int), (0 : Int), (0 : Int), (0 : Int), (0 : Int), (0 : Int), (0 : Int), (0 : Int), (0 : Int), (0 : Int), (0 : Int), (0 : Int), (0 : Int), (0 : Int), (0 : Int), (0 : Int), (0 : Int), (0 : Int), (0 : Int), (0 : Int), (0 : Int), (0 : Int), (0 : Int), (0 : Int), (0 : Int), (0 : Int), (0 : Int), (0 : Int), (0 : Int), (0 : Int), (0 : Int), (0 : Int), (0 : Int), (0 : Int), (0 : Int), (0 : Int), (0 : Int), (0 : Int), (0 : Int), (0 : Int), (0 : Int), (0 : Int), (0 : Int), (0 : Int), (0 : Int)] → (Go.Sx.L2.cRoot).rel.pre [(2 : Int), (64 : Int), (1 : Int), (7 : Int), (4 : Int)] [L0] ∧
(∀ v10 : Int, ∀ L1 : List Int, (Go.Sx.L2.cRoot).rel.post [(2 : Int), (64 : Int), (1 : Int), (7 : Int), (4 : Int)] [L0] [v10] [L1] → ∃ (I0 : List Int → List (List Int) → Prop) (μ0 : List Int → List (List Int) → Nat), I0 [(0 : Int)] [L1] ∧
(∀ v11 : Int, ∀ L2 : List Int, I0 [v11] [L2] →
 ((v11 < v5) → (Go.Sx.L2.cDer).rel.pre [(2 : Int), (64 : Int), (1 : Int), (7 : Int), (0 : Int), v11, (1 : Int)] [L2] ∧
(∀ v13 : Int, ∀ L3 : List Int, (Go.Sx.L2.cDer).rel.post [(2 : Int), (64 : Int), (1 : Int), (7 : Int), (0 : Int), v11, (1 : Int)] [L2] [v13] [L3] → ((v13 ≠ (0 : Int)) → False) ∧
((v13 = (0 : Int)) → ∀ v15 : Int, v15 = v11 + (1 : Int) → (I0 [v15] [L3] ∧ μ0 [v15] [L3] < μ0 [v11] [L2])))) ∧
((v5 ≤ v11) → (((-9223372036854775808) : Int) ≤ v9) ∧ (v9 ≤ (9223372036854775807 : Int)) ∧ (Go.Sx.L2.cDrop).rel.pre [(2 : Int), (64 : Int), (0 : Int), v9] [L2] ∧
(∀ v13 : Int, ∀ v14 : Int, ∀ v15 : Int, ∀ v16 : Int, ∀ v17 : Int, ∀ L3 : List Int, ∀ L4 : List Int, (Go.Sx.L2.cDrop).rel.post [(2 : Int), (64 : Int), (0 : Int), v9] [L2] [v13, v14, v15, v16, v17] [L3, L4] → ((v17 ≠ (0 : Int)) → False) ∧
((v17 = (0 : Int)) → ∀ v19 : Int, v19 = (if v14 = 0 then (0 : Int) else v13) → ((v19 ≠ (1 : Int)) → False) ∧
((v19 = (1 : Int)) → (v14 ≠ (0 : Int)) ∧ ((0 : Int) < v13) ∧ ((0 : Int) < v15) ∧ ∀ v21 : Int, v21 = (L3).getD ((0 : Int)).toNat 0 → ((1 : Int) < v15) ∧ ∀ v22 : Int, v22 = (L3).getD ((1 : Int)).toNat 0 → ∀ v23 : Int, v23 = b2i (v21 == (0 : Int)) → ∀ v24 : Int, v24 = b2i (v9 == v22) → ∀ v25 : Int, v25 = (if v24 = 0 then (0 : Int) else (1 : Int)) → ∀ v26 : Int, v26 = (if v23 = 0 then (0 : Int) else v25) → ∀ v27 : Int, v27 = b2i (v26 == 0) → (v27 ≠ 0 → False) ∧
(v27 = 0 → (Go.Sx.L2.cBelow).rel.pre [(2 : Int), (64 : Int), (1 : Int), (7 : Int)] [L4] ∧
(∀ v28 : Int, ∀ v29 : Int, ∀ v30 : Int, ∀ v31 : Int, ∀ L5 : List Int, (Go.Sx.L2.cBelow).rel.post [(2 : Int), (64 : Int), (1 : Int), (7 : Int)] [L4] [v28, v29, v30, v31] [L5] → ∀ v32 : Int, v32 = (if v29 = 0 then (0 : Int) else v28) → ∀ v33 : Int, v33 = v5 - (1 : Int) → ((v32 ≠ v33) → False) ∧
((v32 = v33) → (Go.Sx.L2.cRevoke).rel.pre [(2 : Int), (64 : Int), (1 : Int), (7 : Int)] [L4] ∧
(∀ v35 : Int, ∀ v36 : Int, ∀ v37 : Int, ∀ v38 : Int, ∀ v39 : Int, ∀ L6 : List Int, ∀ L7 : List Int, (Go.Sx.L2.cRevoke).rel.post [(2 : Int), (64 : Int), (1 : Int), (7 : Int)] [L4] [v35, v36, v37, v38, v39] [L6, L7] → (Go.Sx.L2.cAt).rel.pre [(2 : Int), (64 : Int), (1 : Int), (7 : Int)] [L7] ∧
(∀ v40 : Int, ∀ v41 : Int, ∀ v42 : Int, ∀ v43 : Int, ∀ v44 : Int, (Go.Sx.L2.cAt).rel.post [(2 : Int), (64 : Int), (1 : Int), (7 : Int)] [L7] [v40, v41, v42, v43, v44] [] → ((v39 = (0 : Int)) → ∀ v46 : Int, v46 = (if v36 = 0 then (0 : Int) else v35) → ((v33 = v46) → (v44 ≠ 0 → (Go.Sx.L2.cOf).rel.pre [(2 : Int), (64 : Int), (4 : Int)] [L7] ∧
(∀ v48 : Int, ∀ v49 : Int, ∀ v50 : Int, ∀ v51 : Int, ∀ L8 : List Int, (Go.Sx.L2.cOf).rel.post [(2 : Int), (64 : Int), (4 : Int)] [L7] [v48, v49, v50, v51] [L8] → ∀ v52 : Int, v52 = (if v49 = 0 then (0 : Int) else v48) → ∀ v53 : Int, v53 = b2i (v52 == (1 : Int)) → (v53 ≠ (0 : Int)) ∧ Q [] [])) ∧
(v44 = 0 → False)) ∧
((v33 ≠ v46) → False)) ∧
((v39 ≠ (0 : Int)) → False)))))))))))))) := by kernel_rfl
set_option maxHeartbeats 4000000 in
theorem capsFan_holds0 : (lawSpec L2.f_messuagelaw11_CapsFan [.one (.i .i64), .one (.i .i64)]).Holds Tryz.prog L2.ro := FSpec.holdsV (cfg := withS (L2.cfgB Tryz.prog) [L2.cAt, L2.cRoot, L2.cDer, L2.cOf, L2.cBelow, L2.cRevoke, L2.cDrop]) [{ f := L2.f_messuagelaw11_CapsFan, reg := 9, ints := [(7, 0, 7)], lists := [(6, [0], some (-9223372036854775808, 9223372036854775807))] }] 20 200 (withS_ok cfgB_ok ⟨cAt_holds, cRoot_holds, cDer_holds, cOf_holds, cBelow_holds, cRevoke_holds, cDrop_holds, trivial⟩) mixed (t := CapsFan_t) CapsFan_tree (by
  show ∀ (v0 v1 : Int) , _
  intro v0 v1  hp hr hl
  replace hr : ((-9223372036854775808 : Int) ≤ v0 ∧ v0 ≤ (9223372036854775807 : Int)) ∧ ((-9223372036854775808 : Int) ≤ v1 ∧ v1 ≤ (9223372036854775807 : Int)) ∧ True := hr
  replace hp : True := hp
  show CapsFan_t.dn ⟨_, []⟩ 2 [v1, v0] 0 []
  rw [CapsFan_vc]
  show ((L2.yes L2.f_messuagelaw11_begun).rel.pre [] [] ∧ _)
  refine ⟨trivial, fun _ => ?_⟩
  intro v2 e2 v3 e3 v4 e4 v5 e5 v6 e6 v7 e7 v8 e8 v9 e9
  have r2 := tmodR (x := v0) (m := 7) (by omega)
  have r4 := tmodP (x := v3) (m := 7) (by omega) (by omega)
  have r6 := tmodR (x := v1) (m := v5) (by omega)
  have w8 := wrapI v7
  have r9 := tmodP (x := v8) (m := v5) (by omega) (by omega)
  have hn : 1 ≤ v5 ∧ v5 ≤ 7 := by omega
  have ha : 0 ≤ v9 ∧ v9 < v5 := by omega
  clear r2 r4 r6 w8 r9 e2 e3 e4 e5 e6 e7 e8 e9 hr hp hl
  obtain ⟨n, rfl⟩ : ∃ m : Nat, v5 = m := ⟨v5.toNat, by omega⟩
  obtain ⟨a, rfl⟩ : ∃ m : Nat, v9 = m := ⟨v9.toNat, by omega⟩
  have F := fan_st (n := n) (a := a) (by omega) (by omega)
  intro L0 e0
  refine ⟨rfl, ?_⟩
  intro e T0 h0
  have hT0 : T0 = fanT 0 := by rw [(croot_post h0).2, e0]; rfl
  clear e0 h0
  refine ⟨fun xs ys => match xs, ys with | [i], [T] => 0 ≤ i ∧ i ≤ n ∧ T = fanT i.toNat | _, _ => False, fun xs _ => match xs with | i :: _ => ((n : Int) - i).toNat | _ => 0, ?_, ?_⟩ <;> dsimp only
  · exact ⟨by omega, by omega, hT0⟩
  · intro i T hI
    obtain ⟨i0, i1, hT⟩ := hI
    obtain ⟨i, rfl⟩ : ∃ m : Nat, i = m := ⟨i.toNat, by omega⟩
    rw [Int.toNat_natCast] at hT
    refine ⟨fun c1 => ⟨rfl, ?_⟩, fun c1 => ?_⟩
    · intro x T' hD
      have hd := cder_post hD
      have hz := fan_der i (by omega)
      rw [hT, hz] at hd
      refine ⟨fun c => absurd hd.1 c, fun _ => ?_⟩
      intro j ej
      refine ⟨⟨by omega, by omega, ?_⟩, by omega⟩
      rw [ej, show ((i : Int) + 1).toNat = i + 1 by omega, hd.2]; rfl
    · have hi : i = n := by omega
      subst hi
      subst hT
      refine ⟨by omega, by omega, ⟨rfl, F.cv⟩, ?_⟩
      intro a1 r1 d1 t1 err W T1 hG
      have g := cgo_post hG
      have gok := g.ok F.look
      have hW : W = [0, (a : Int)] := by rw [gok.1]; exact F.drop
      have hT1 : T1 = fanGo i a := gok.2
      have glen := g.len
      rw [hW] at glen
      have ha1 : a1 = 1 := by simp at glen; omega
      have g2 := g.room
      have g3 := g.num
      have g4 := g.err
      rw [F.look] at g4
      refine ⟨fun c => absurd g4 c, fun _ => ?_⟩
      intro b eb
      have hb := vecl g.a0 g.room eb
      refine ⟨fun c => absurd (by omega) c, fun _ => ⟨by omega, by omega, by omega, ?_⟩⟩
      intro x ex
      refine ⟨by omega, ?_⟩
      intro y ey
      have hx : x = 0 := by rw [ex, hW]; rfl
      have hy : y = (a : Int) := by rw [ey, hW]; rfl
      intro z1 f1 z2 f2 z3 f3 z4 f4 z5 f5
      have hz5 : z5 = 0 := by rw [f5, f4, f3, f2, f1, hx, hy]; simp [b2i]
      refine ⟨fun c => absurd hz5 c, fun _ => ⟨⟨rfl, by show CV 2 T1; rw [hT1]; exact F.cv2⟩, ?_⟩⟩
      intro a2 r3 d3 t3 W2 hS
      have s := cbelow_post hS
      have sl := s.len
      rw [hT1, F.below] at sl
      intro u eu w ew
      have hu := vecl s.a0 s.room eu
      refine ⟨fun c => absurd (by omega) c, fun _ => ⟨⟨rfl, by show CV 2 T1; rw [hT1]; exact F.cv2⟩, ?_⟩⟩
      intro a3 r4 d4 t4 err2 W3 T2 hG2
      have k := cgo_post hG2
      rw [hT1] at k
      have kok := k.ok F.look2
      have hT2 : T2 = fanEnd i a := kok.2
      have klen := k.len
      rw [kok.1, F.below] at klen
      have k4 := k.err
      rw [F.look2] at k4
      refine ⟨rfl, ?_⟩
      intro f r pe ps ok hA
      have hA := cat_post hA
      rw [hT2, F.cap] at hA
      have hok : ok = 1 := hA.2.2.2.2
      refine ⟨fun _ => ?_, fun c => absurd k4 c⟩
      intro q eq
      have hq := vecl k.a0 k.room eq
      refine ⟨fun _ => ⟨fun _ => ⟨rfl, ?_⟩, fun c => by omega⟩, fun c => absurd (by omega) c⟩
      intro a5 r5 d5 t5 W5 hO
      have o := cof_post hO
      have ol := o.len
      rw [hT2, F.of] at ol
      intro p ep z ez
      have hp := vecl o.a0 o.room ep
      refine ⟨?_, trivial⟩
      rw [ez, hp, show a5 = 1 by omega]; decide)
theorem capsFan_holds : ((lawSpec L2.f_messuagelaw11_CapsFan [.one (.i .i64), .one (.i .i64)]).withPre fun _ => True).Holds Tryz.prog L2.ro := holds_withPre _ capsFan_holds0

theorem capsFan_calls {H : Type} {enc : TypeId × Value → H} {W : World} {base : Nat} {args : Array Value} {ds : List (DataW H)} {p : List MemPlace} (hval : ∀ (j : Nat) t v, Tryz.f12.params[j]? = some t → args[j]? = some v → Value.okWide Tryz.prog W .any base t v)
    (hA : DataW.TrodAll enc Tryz.prog W 0 (fun _ => true) true Tryz.f12.params.toList args.toList ds p) (hL : laidMetH Tryz.prog laid1 W) : Calls Tryz.prog 12 args W fun e W' => e = .returned (.bool true) ∧ Go.Sx.Frame ⟨W, [], L2.ro⟩ W' := by
  rw [Tryz.params12] at hA hval
  obtain ⟨v0, v1, d0, d1, p0, p1, rfl, rfl, rfl, h0, h1⟩ := trodAll_two hA
  obtain ⟨n0, q0⟩ := par_int (base := 0) und3 (hval 0 3 v0 rfl rfl) h0
  obtain ⟨n1, q1⟩ := par_int (base := 0) und3 (hval 1 3 v1 rfl rfl) h1
  exact law_calls (capsFan_holds) Tryz.func12 (show Tryz.f12.body = some _ from rfl) (by kernel_rfl) (.cons q0 (.cons q1 .none)) trivial (ro_of_laid hL)
set_option maxHeartbeats 1000000 in
theorem capsFan_lifted (os : Os) (started : os.Started) (H : Type) (enc : TypeId × Value → H) :
    ReturnsInHanded {} Tryz.checked os 12 .any (fun w args => (Rows.capsFanSpec.pre enc Tryz.prog Tryz.f12 [] false w args ∧ laidMetH Tryz.prog laid1 w) ∧ sizedMet enc Tryz.prog Tryz.f12 (OpenSpec.ofChange Rows.capsFanSpec) false w args)
      (Rows.capsFanSpec.post enc Tryz.prog Tryz.f12 false true false false) := by
  refine returnsInHanded_of_change_and (C := Tryz.checked) (X := fun w _ => laidMetH Tryz.prog laid1 w) (fun _ _ _ hh h => h.of_heap hh) Tryz.own started (by kernel_rfl) Tryz.func12
    (ChangeSpec.witness_at (enc := enc) (C := Tryz.checked) (os := os) (X := fun w _ => laidMetH Tryz.prog laid1 w) false (laidWorld os) #[.int .i64 0, .int .i64 0] 8 rfl (by kernel_rfl) (by kernel_rfl) (by kernel_rfl) (by kernel_rfl) (by kernel_rfl) (laidWorld_met os _)) ?_
  intro W base args ds gs before hval0 hW _ _ hL _
  have hval : ∀ (j : Nat) t v, Tryz.f12.params[j]? = some t → args[j]? = some v → Value.okWide Tryz.prog W .any base t v := hval0
  have hW' := hW
  obtain ⟨p, q, hA0, hV0, rfl, hfz, hnd⟩ := hW
  have hcall := capsFan_calls (enc := enc) hval hA0 hL
  refine Calls.mono hcall ?_
  rintro e W' ⟨rfl, hfr⟩
  exact ⟨_, rfl, post_kept Tryz.laidOut (by kernel_rfl) rfl rfl und4 hW' hfr (by
    have hg : gs = [] := by cases gs with | nil => rfl | cons g r => exact absurd hV0 (by intro h; cases h)
    subst hg
    have hA1 : DataW.TrodAll enc Tryz.prog W 0 (fun _ => true) true Tryz.f12.params.toList args.toList ds p := hA0
    rw [Tryz.params12] at hA1
    obtain ⟨v0, v1, d0, d1, p0, p1, ea, rfl, ec, h0, h1⟩ := trodAll_two hA1
    rfl)⟩

theorem capsFan_row : Rows.CapsFanSaid :=
  OpenClaim.holds_of_wide 12 Tryz.f12 rfl rfl rfl rfl rfl rfl rfl ⟨rfl, rfl, rfl, rfl, rfl⟩ rfl rfl rfl rfl rfl (by kernel_rfl) Tryz.func12 (restFacts.2 _ _ _ _ _ Tryz.mayEnter Tryz.liftsFinal Tryz.make (by kernel_rfl))
    (of_decide_eq_true (by kernel_rfl)) (by unfold Func.isWrapper; rw [if_neg (of_decide_eq_false (by kernel_rfl))]; exact ⟨rfl, rfl⟩)
    (fun os started H enc _ => capsFan_lifted os started H enc)
theorem capsFan_card : Rows.CapsFanCardSaid :=
  Claim7.holds_tied_plain_at .later [] [.handle] true (true, "2b6aa8c52f26a36866b589049fd1d65802bdae42632cc16d24d227b9428605b6") true
    capsFan_row (fun _ h => by cases h) (by kernel_rfl) (fun _ h => by cases h) capsFan_row_tie rfl ⟨rfl, rfl⟩ Tryz.mainIs rfl
    (fun f fn hf hfn => by
      obtain rfl : f = 12 := Option.some.inj ((show Tryz.prog.funcNamed "messuage/messuagelaw11.CapsFan" = some 12 by kernel_rfl).symm.trans hf) |>.symm
      obtain rfl : fn = Tryz.f12 := (Option.some.inj (Tryz.func12.symm.trans hfn)).symm
      exact ⟨by kernel_rfl, fun j t ht => by
        rw [Tryz.params12] at ht
        rcases j with _ | _ | j
        · obtain rfl : 3 = t := by simpa using ht
          exact (show Tryz.prog.wantsStandIn 3 = false by kernel_rfl)
        · obtain rfl : 3 = t := by simpa using ht
          exact (show Tryz.prog.wantsStandIn 3 = false by kernel_rfl)
        · simp at ht⟩)
    (by kernel_rfl)
#print axioms capsFan_card
end Go.Proofs.YtegeplgckfpleaaGreatDoor
