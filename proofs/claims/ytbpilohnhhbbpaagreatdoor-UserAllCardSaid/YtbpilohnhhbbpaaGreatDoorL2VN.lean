/- The executor: texts of it, one behind another. -/
import Derived.Test.YtbpilohnhhbbpaaGreatDoorL2B
import Derived.Test.YtbpilohnhhbbpaaGreatDoorSxM7
import Derived.Test.YtbpilohnhhbbpaaGreatDoorSxSel
import Derived.Test.YtbpilohnhhbbpaaGreatDoorL2CB
import Derived.Test.YtbpilohnhhbbpaaGreatDoorL2S
set_option linter.unusedVariables false
set_option linter.constructorNameAsVariable false
/- A part of the proof of messuagelaw11.UserAll: some of the arguments nil. -/
set_option linter.unusedVariables false
set_option linter.unusedSimpArgs false
open Go Go.Sx
namespace Go.Proofs.YtbpilohnhhbbpaaGreatDoor
open Go.ChangeShapes Go.WideShapes Go.RowKit
set_option maxRecDepth 100000
noncomputable def UserAll_nnn_t : Tree := .call 19 (Go.Sx.L2.yes Go.Sx.L2.f_messuagelaw11_begun).rel [] [] 0 0 (.call 16 (Go.Sx.L2.bNew).rel [] [] 0 1 (.call 17 (Go.Sx.L2.tNew).rel [] [] 0 1 (.call 18 (Go.Sx.L2.mNew16).rel [] [] 1 16 (.call 37 (Go.Sx.L2.rNew).rel [] [] 0 1 (.call 38 (Go.Sx.L2.rKNew).rel [] [] 0 1 (.loop [.c (0), .c (0)] [0, 18] (.ite (.v 2) (.exit (.letL (.lit [.c (0), .c (0), .c (0), .c (0), .c (0), .c (0), .c (0), .c (0), .c (0), .c (0), .c (0), .c (0), .c (0), .c (0), .c (0), .c (0), .c (0), .c (0), .c (0), .c (0), .c (0), .c (0), .c (0), .c (0)]) (.loop [.c (0), .c (0)] [1, 22] (.ite (.v 4) (.exit (.loop [.c (0)] [20, 21, 2, 3, 4, 5, 6, 7, 8, 9, 10, 11, 12, 13, 14, 15, 16, 17, 19] (.exit (.done [] [])))) (.again [.v 3, .c (1)] [23, 24]))))) (.again [.v 1, .c (1)] [20, 21]))))))))
theorem UserAll_nnn_tree : (lawSpec L2.f_messuagelaw11_UserAll [.nil, .nil, .nil]).exe Tryz.prog (withS (L2.cfgB Tryz.prog) [L2.kind_ L2.f_messuageref2_Kind, L2.check_ L2.f_messuageref2_Check, L2.lets_ L2.f_messuageref2_Lets, L2.tNew, L2.tInsert, L2.bNew, L2.bFill, L2.bLines, L2.uDo 16, L2.rNew, L2.rFind, L2.rFill, L2.rFlush, L2.rWord, L2.rKNew, L2.mNew16]) [{ f := L2.f_messuagelaw11_UserAll, reg := 9, ints := [(14, 0, 12)], lists := [(8, [], some (-9223372036854775808, 9223372036854775807)), (11, [], some (-9223372036854775808, 9223372036854775807))], join := some 0 }, { f := L2.f_messuagelaw11_UserAll, reg := 14, ints := [(15, 0, 8)], lists := [(9, [], some (-9223372036854775808, 9223372036854775807)), (13, [], some (-9223372036854775808, 9223372036854775807))], join := some 2 }, { f := L2.f_messuagelaw11_UserAll, reg := 19, ints := [(16, 0, 40)], lists := [(8, [], some (-9223372036854775808, 9223372036854775807)), (11, [], some (-9223372036854775808, 9223372036854775807)), (10, [0, 0], some (0, 18446744073709551615)), (10, [0, 1], some (0, 18446744073709551615)), (10, [0, 2], some (0, 18446744073709551615)), (10, [0, 3], some (0, 18446744073709551615)), (10, [0, 4], some (0, 18446744073709551615)), (10, [0, 5], some (0, 18446744073709551615)), (10, [0, 6], some (0, 18446744073709551615)), (10, [0, 7], some (0, 18446744073709551615)), (10, [0, 8], some (0, 18446744073709551615)), (10, [0, 9], some (0, 18446744073709551615)), (10, [0, 10], some (0, 18446744073709551615)), (10, [0, 11], some (0, 18446744073709551615)), (10, [0, 12], some (0, 18446744073709551615)), (10, [0, 13], some (0, 18446744073709551615)), (10, [0, 14], some (0, 18446744073709551615)), (10, [0, 15], some (0, 18446744073709551615)), (12, [], some (-9223372036854775808, 18446744073709551615))] }, { f := L2.f_messuagelaw11_UserAll, reg := 48, ints := [(221, 0, 8)] }] 20 200 = UserAll_nnn_t := by kernel_rfl
theorem UserAll_nnn_vc (Q : List Int → List (List Int) → Prop) : UserAll_nnn_t.dn ⟨Q, []⟩ 0 [] 0 [] = ((Go.Sx.L2.yes Go.Sx.L2.f_messuagelaw11_begun).rel.pre [] [] ∧
((Go.Sx.L2.yes Go.Sx.L2.f_messuagelaw11_begun).rel.post [] [] [] [] → (Go.Sx.L2.bNew).rel.pre [] [] ∧
(∀ L0 : List Int, (Go.Sx.L2.bNew).rel.post [] [] [] [L0] → (Go.Sx.L2.tNew).rel.pre [] [] ∧
(∀ L1 : List Int, (Go.Sx.L2.tNew).rel.post [] [] [] [L1] → (Go.Sx.L2.mNew16).rel.pre [] [] ∧
(∀ v0 : Int, ∀ L2 : List Int, ∀ L3 : List Int, ∀ L4 : List Int, ∀ L5 : List Int, ∀ L6 : List Int, ∀ L7 : List Int, ∀ L8 : List Int, ∀ L9 : List Int, ∀ L10 : List Int, ∀ L11 : List Int, ∀ L12 : List Int, ∀ L13 : List Int, ∀ L14 : List Int, ∀ L15 : List Int, ∀ L16 : List Int, ∀ L17 : List Int, (Go.Sx.L2.mNew16).rel.post [] [] [v0] [L2, L3, L4, L5, L6, L7, L8, L9, L10, L11, L12, L13, L14, L15, L16, L17] → (Go.Sx.L2.rNew).rel.pre [] [] ∧
(∀ L18 : List Int, (Go.Sx.L2.rNew).rel.post [] [] [] [L18] → (Go.Sx.L2.rKNew).rel.pre [] [] ∧
(∀ L19 : List Int, (Go.Sx.L2.rKNew).rel.post [] [] [] [L19] → ∃ (I0 : List Int → List (List Int) → Prop) (μ0 : List Int → List (List Int) → Nat), I0 [(0 : Int), (0 : Int)] [L0, L18] ∧
(∀ v1 : Int, ∀ v2 : Int, ∀ L20 : List Int, ∀ L21 : List Int, I0 [v1, v2] [L20, L21] →
 (v2 ≠ 0 → ∀ L22 : List Int, L22 = [(0 : Int), (0 : Int), (0 : Int), (0 : Int), (0 : Int), (0 : Int), (0 : Int), (0 : Int), (0 : Int), (0 : Int), (0 : Int), (0 : Int), (0 : Int), (0 : Int), (0 : Int), (0 : Int), (0 : Int), (0 : Int), (0 : Int), (0 : Int), (0 : Int), (0 : Int), (0 : Int), (0 : Int)] → ∃ (I1 : List Int → List (List Int) → Prop) (μ1 : List Int → List (List Int) → Nat), I1 [(0 : Int), (0 : Int)] [L1, L22] ∧
(∀ v3 : Int, ∀ v4 : Int, ∀ L23 : List Int, ∀ L24 : List Int, I1 [v3, v4] [L23, L24] →
 (v4 ≠ 0 → ∃ (I2 : List Int → List (List Int) → Prop) (μ2 : List Int → List (List Int) → Nat), I2 [(0 : Int)] [L20, L21, L2, L3, L4, L5, L6, L7, L8, L9, L10, L11, L12, L13, L14, L15, L16, L17, L19] ∧
(∀ v5 : Int, ∀ L25 : List Int, ∀ L26 : List Int, ∀ L27 : List Int, ∀ L28 : List Int, ∀ L29 : List Int, ∀ L30 : List Int, ∀ L31 : List Int, ∀ L32 : List Int, ∀ L33 : List Int, ∀ L34 : List Int, ∀ L35 : List Int, ∀ L36 : List Int, ∀ L37 : List Int, ∀ L38 : List Int, ∀ L39 : List Int, ∀ L40 : List Int, ∀ L41 : List Int, ∀ L42 : List Int, ∀ L43 : List Int, I2 [v5] [L25, L26, L27, L28, L29, L30, L31, L32, L33, L34, L35, L36, L37, L38, L39, L40, L41, L42, L43] →
 Q [] [])) ∧
(v4 = 0 → (I1 [v3, (1 : Int)] [L23, L24] ∧ μ1 [v3, (1 : Int)] [L23, L24] < μ1 [v3, v4] [L23, L24])))) ∧
(v2 = 0 → (I0 [v1, (1 : Int)] [L20, L21] ∧ μ0 [v1, (1 : Int)] [L20, L21] < μ0 [v1, v2] [L20, L21])))))))))) := by kernel_rfl
set_option maxHeartbeats 4000000 in
theorem userAll_holds_nnn0 : (lawSpec L2.f_messuagelaw11_UserAll [.nil, .nil, .nil]).Holds Tryz.prog L2.ro := FSpec.holdsV (cfg := withS (L2.cfgB Tryz.prog) [L2.kind_ L2.f_messuageref2_Kind, L2.check_ L2.f_messuageref2_Check, L2.lets_ L2.f_messuageref2_Lets, L2.tNew, L2.tInsert, L2.bNew, L2.bFill, L2.bLines, L2.uDo 16, L2.rNew, L2.rFind, L2.rFill, L2.rFlush, L2.rWord, L2.rKNew, L2.mNew16]) [{ f := L2.f_messuagelaw11_UserAll, reg := 9, ints := [(14, 0, 12)], lists := [(8, [], some (-9223372036854775808, 9223372036854775807)), (11, [], some (-9223372036854775808, 9223372036854775807))], join := some 0 }, { f := L2.f_messuagelaw11_UserAll, reg := 14, ints := [(15, 0, 8)], lists := [(9, [], some (-9223372036854775808, 9223372036854775807)), (13, [], some (-9223372036854775808, 9223372036854775807))], join := some 2 }, { f := L2.f_messuagelaw11_UserAll, reg := 19, ints := [(16, 0, 40)], lists := [(8, [], some (-9223372036854775808, 9223372036854775807)), (11, [], some (-9223372036854775808, 9223372036854775807)), (10, [0, 0], some (0, 18446744073709551615)), (10, [0, 1], some (0, 18446744073709551615)), (10, [0, 2], some (0, 18446744073709551615)), (10, [0, 3], some (0, 18446744073709551615)), (10, [0, 4], some (0, 18446744073709551615)), (10, [0, 5], some (0, 18446744073709551615)), (10, [0, 6], some (0, 18446744073709551615)), (10, [0, 7], some (0, 18446744073709551615)), (10, [0, 8], some (0, 18446744073709551615)), (10, [0, 9], some (0, 18446744073709551615)), (10, [0, 10], some (0, 18446744073709551615)), (10, [0, 11], some (0, 18446744073709551615)), (10, [0, 12], some (0, 18446744073709551615)), (10, [0, 13], some (0, 18446744073709551615)), (10, [0, 14], some (0, 18446744073709551615)), (10, [0, 15], some (0, 18446744073709551615)), (12, [], some (-9223372036854775808, 18446744073709551615))] }, { f := L2.f_messuagelaw11_UserAll, reg := 48, ints := [(221, 0, 8)] }] 20 200 (withS_ok cfgB_ok ⟨rKind_holds, rCheck_holds, rLets_holds, tNew_holds, tInsert_holds, bNew_holds, bFill_holds, bLines_holds, uDoM16_holds, rNew_holds, rFind_holds, rFill_holds, rFlush_holds, rWord_holds, rKNew_holds, mNew16_holds, trivial⟩) mixed (t := UserAll_nnn_t) UserAll_nnn_tree (by
  show _ → _
  intro   hp hr hl
  replace hr : True := hr
  replace hp : True := hp
  show UserAll_nnn_t.dn ⟨_, []⟩ 0 [] 0 []
  rw [UserAll_nnn_vc]
  show ((L2.yes L2.f_messuagelaw11_begun).rel.pre [] [] ∧ _)
  refine ⟨trivial, fun _ => ?_⟩
  refine ⟨trivial, fun B0 hB0 => ⟨trivial, fun T0 hT0 => ⟨trivial, fun cap m0 m1 m2 m3 m4 m5 m6 m7 m8 m9 m10 m11 m12 m13 m14 m15 hM0 => ⟨trivial, fun W0 hW0 => ⟨trivial, fun K0 hK0 => ?_⟩⟩⟩⟩⟩
  have hB0' : B0 = clearB (List.replicate 41 0) := (List.cons.inj (show [B0] = [clearB (List.replicate 41 (0 : Int))] from hB0.2)).1
  have hT0' : T0 = List.replicate 24 0 := (List.cons.inj (show [T0] = [List.replicate 24 (0 : Int)] from hT0.2)).1
  have hW0' : W0 = [-1, 0, 0, 0, -1, 0, 0, 0, -1, 0, 0, 0, -1, 0, 0, 0, -1, 0, 0, 0, -1, 0, 0, 0, -1, 0, 0, 0, -1, 0, 0, 0, 0, 0, 0, 0, 0, 0, 0, 0, 0] := (List.cons.inj (show [W0] = [[-1, 0, 0, 0, -1, 0, 0, 0, -1, 0, 0, 0, -1, 0, 0, 0, -1, 0, 0, 0, -1, 0, 0, 0, -1, 0, 0, 0, -1, 0, 0, 0, 0, 0, 0, 0, 0, 0, 0, 0, 0]] from hW0.2)).1
  have hM : [m0, m1, m2, m3, m4, m5, m6, m7, m8, m9, m10, m11, m12, m13, m14, m15] = List.replicate 16 (List.replicate 16 (0 : Int)) := hM0
  have hK : K0 = 1 :: 4 :: 16 :: List.replicate 512 (0 : Int) := (List.cons.inj (show [K0] = [1 :: 4 :: 16 :: List.replicate 512 (0 : Int)] from hK0.2)).1
  have hMR : MR [m0, m1, m2, m3, m4, m5, m6, m7, m8, m9, m10, m11, m12, m13, m14, m15] K0 := ua_mr hM hK
  clear hB0 hT0 hW0 hM0 hK0 hM hK
  refine ⟨fun xs ys => match xs, ys with | [i, g], [B, W] => 0 ≤ i ∧ TB B W ∧ FB B | _, _ => False, fun xs _ => match xs with | [i, g] => 2 * (12 - i).toNat + (if g = 0 then 1 else 0) | _ => 0, ?_, ?_⟩ <;> dsimp only
  · rw [hB0', hW0']; exact ⟨by omega, TB.start, FB.start⟩
  · intro i g B W hI
    obtain ⟨i0, tb, fb⟩ := hI
    clear hB0' hW0'
    refine ⟨fun hg P0 eP => ?_, fun hg => ?_⟩
    · refine ⟨fun xs ys => match xs, ys with | [i, g], [T, P] => 0 ≤ i ∧ TV T ∧ P = T | _, _ => False, fun xs _ => match xs with | [i, g] => 2 * (8 - i).toNat + (if g = 0 then 1 else 0) | _ => 0, ?_, ?_⟩ <;> dsimp only
      · rw [hT0', eP]; exact ⟨by omega, TV.start, rfl⟩
      · intro j q T P hJ
        obtain ⟨j0, hT, hP⟩ := hJ
        subst hP
        clear hT0' eP
        refine ⟨fun hq => ?_, fun hq => ?_⟩
        · refine ⟨fun xs ys => match xs, ys with | [i], [B, W, M0, M1, M2, M3, M4, M5, M6, M7, M8, M9, M10, M11, M12, M13, M14, M15, K] => 0 ≤ i ∧ UA B W [M0, M1, M2, M3, M4, M5, M6, M7, M8, M9, M10, M11, M12, M13, M14, M15] K | _, _ => False, fun xs _ => match xs with | [i] => ((0 : Int) - i).toNat | _ => 0, ?_, ?_⟩ <;> dsimp only
          · exact ⟨by omega, tb, fb, hMR⟩
          · clear tb fb hMR
            intro n B W M0 M1 M2 M3 M4 M5 M6 M7 M8 M9 M10 M11 M12 M13 M14 M15 K hI2
            obtain ⟨n0, u⟩ := hI2
            exact trivial
        · exact ⟨⟨j0, hT, rfl⟩, by (repeat' split) <;> omega⟩
    · exact ⟨⟨i0, tb, fb⟩, by (repeat' split) <;> omega⟩)
theorem userAll_holds_nnn : ((lawSpec L2.f_messuagelaw11_UserAll [.nil, .nil, .nil]).withPre fun _ => True).Holds Tryz.prog L2.ro := holds_withPre _ userAll_holds_nnn0
end Go.Proofs.YtbpilohnhhbbpaaGreatDoor
/- A part of the proof of messuagelaw11.UserAll: some of the arguments nil. -/
set_option linter.unusedVariables false
set_option linter.unusedSimpArgs false
open Go Go.Sx
namespace Go.Proofs.YtbpilohnhhbbpaaGreatDoor
open Go.ChangeShapes Go.WideShapes Go.RowKit
set_option maxRecDepth 100000
noncomputable def UserAll_snn_t : Tree := .call 19 (Go.Sx.L2.yes Go.Sx.L2.f_messuagelaw11_begun).rel [] [] 0 0 (.call 16 (Go.Sx.L2.bNew).rel [] [] 0 1 (.call 17 (Go.Sx.L2.tNew).rel [] [] 0 1 (.call 18 (Go.Sx.L2.mNew16).rel [] [] 1 16 (.call 37 (Go.Sx.L2.rNew).rel [] [] 0 1 (.call 38 (Go.Sx.L2.rKNew).rel [] [] 0 1 (.loop [.c (0), .c (0)] [1, 19] (.ite (.v 5) (.exit (.letL (.lit [.c (0), .c (0), .c (0), .c (0), .c (0), .c (0), .c (0), .c (0), .c (0), .c (0), .c (0), .c (0), .c (0), .c (0), .c (0), .c (0), .c (0), .c (0), .c (0), .c (0), .c (0), .c (0), .c (0), .c (0)]) (.loop [.c (0), .c (0)] [2, 23] (.ite (.v 7) (.exit (.loop [.c (0)] [21, 22, 3, 4, 5, 6, 7, 8, 9, 10, 11, 12, 13, 14, 15, 16, 17, 18, 20] (.exit (.done [] [])))) (.again [.v 6, .c (1)] [24, 25]))))) (.letI (.cmp .lss (.v 4) (.v 0)) (.ite (.v 6) (.letI (.cmp .lss (.v 4) (.c 12)) (.ite (.v 7) (.need .lss (.v 4) (.v 0) (.letI (.mul (.v 4) (.c 4)) (.need .lss (.v 8) (.v 2) (.letI (.get 0 (.v 8)) (.letI (.add (.v 8) (.c 1)) (.need .lss (.v 10) (.v 2) (.letI (.get 0 (.v 10)) (.letI (.add (.v 8) (.c 2)) (.need .lss (.v 12) (.v 2) (.letI (.get 0 (.v 12)) (.letI (.add (.v 8) (.c 3)) (.need .lss (.v 14) (.v 2) (.letI (.get 0 (.v 14)) (.call 39 (Go.Sx.L2.bFill).rel [.v 9, .v 11, .v 13, .v 15] [21] 1 1 (.need .lss (.v 4) (.v 0) (.need .lss (.v 8) (.v 2) (.need .lss (.v 10) (.v 2) (.need .lss (.v 12) (.v 2) (.need .lss (.v 14) (.v 2) (.call 40 (Go.Sx.L2.rFill).rel [.v 9, .v 11, .v 13, .v 15] [22] 1 1 (.letI (.add (.v 4) (.c 1)) (.again [.v 18, .c (0)] [23, 24])))))))))))))))))))))) (.again [.v 4, .c (1)] [21, 22]))) (.again [.v 4, .c (1)] [21, 22]))))))))))
theorem UserAll_snn_tree : (lawSpec L2.f_messuagelaw11_UserAll [.slc L2.ks4, .nil, .nil]).exe Tryz.prog (withS (L2.cfgB Tryz.prog) [L2.kind_ L2.f_messuageref2_Kind, L2.check_ L2.f_messuageref2_Check, L2.lets_ L2.f_messuageref2_Lets, L2.tNew, L2.tInsert, L2.bNew, L2.bFill, L2.bLines, L2.uDo 16, L2.rNew, L2.rFind, L2.rFill, L2.rFlush, L2.rWord, L2.rKNew, L2.mNew16]) [{ f := L2.f_messuagelaw11_UserAll, reg := 9, ints := [(14, 0, 12)], lists := [(8, [], some (-9223372036854775808, 9223372036854775807)), (11, [], some (-9223372036854775808, 9223372036854775807))], join := some 0 }, { f := L2.f_messuagelaw11_UserAll, reg := 14, ints := [(15, 0, 8)], lists := [(9, [], some (-9223372036854775808, 9223372036854775807)), (13, [], some (-9223372036854775808, 9223372036854775807))], join := some 2 }, { f := L2.f_messuagelaw11_UserAll, reg := 19, ints := [(16, 0, 40)], lists := [(8, [], some (-9223372036854775808, 9223372036854775807)), (11, [], some (-9223372036854775808, 9223372036854775807)), (10, [0, 0], some (0, 18446744073709551615)), (10, [0, 1], some (0, 18446744073709551615)), (10, [0, 2], some (0, 18446744073709551615)), (10, [0, 3], some (0, 18446744073709551615)), (10, [0, 4], some (0, 18446744073709551615)), (10, [0, 5], some (0, 18446744073709551615)), (10, [0, 6], some (0, 18446744073709551615)), (10, [0, 7], some (0, 18446744073709551615)), (10, [0, 8], some (0, 18446744073709551615)), (10, [0, 9], some (0, 18446744073709551615)), (10, [0, 10], some (0, 18446744073709551615)), (10, [0, 11], some (0, 18446744073709551615)), (10, [0, 12], some (0, 18446744073709551615)), (10, [0, 13], some (0, 18446744073709551615)), (10, [0, 14], some (0, 18446744073709551615)), (10, [0, 15], some (0, 18446744073709551615)), (12, [], some (-9223372036854775808, 18446744073709551615))] }, { f := L2.f_messuagelaw11_UserAll, reg := 48, ints := [(221, 0, 8)] }] 20 200 = UserAll_snn_t := by kernel_rfl
theorem UserAll_snn_vc (Q : List Int → List (List Int) → Prop) (v0 v1 v2 : Int) (L0 : List Int) : UserAll_snn_t.dn ⟨Q, []⟩ 3 [v2, v1, v0] 1 [L0] = ((Go.Sx.L2.yes Go.Sx.L2.f_messuagelaw11_begun).rel.pre [] [] ∧
((Go.Sx.L2.yes Go.Sx.L2.f_messuagelaw11_begun).rel.post [] [] [] [] → (Go.Sx.L2.bNew).rel.pre [] [] ∧
(∀ L1 : List Int, (Go.Sx.L2.bNew).rel.post [] [] [] [L1] → (Go.Sx.L2.tNew).rel.pre [] [] ∧
(∀ L2 : List Int, (Go.Sx.L2.tNew).rel.post [] [] [] [L2] → (Go.Sx.L2.mNew16).rel.pre [] [] ∧
(∀ v3 : Int, ∀ L3 : List Int, ∀ L4 : List Int, ∀ L5 : List Int, ∀ L6 : List Int, ∀ L7 : List Int, ∀ L8 : List Int, ∀ L9 : List Int, ∀ L10 : List Int, ∀ L11 : List Int, ∀ L12 : List Int, ∀ L13 : List Int, ∀ L14 : List Int, ∀ L15 : List Int, ∀ L16 : List Int, ∀ L17 : List Int, ∀ L18 : List Int, (Go.Sx.L2.mNew16).rel.post [] [] [v3] [L3, L4, L5, L6, L7, L8, L9, L10, L11, L12, L13, L14, L15, L16, L17, L18] → (Go.Sx.L2.rNew).rel.pre [] [] ∧
(∀ L19 : List Int, (Go.Sx.L2.rNew).rel.post [] [] [] [L19] → (Go.Sx.L2.rKNew).rel.pre [] [] ∧
(∀ L20 : List Int, (Go.Sx.L2.rKNew).rel.post [] [] [] [L20] → ∃ (I0 : List Int → List (List Int) → Prop) (μ0 : List Int → List (List Int) → Nat), I0 [(0 : Int), (0 : Int)] [L1, L19] ∧
(∀ v4 : Int, ∀ v5 : Int, ∀ L21 : List Int, ∀ L22 : List Int, I0 [v4, v5] [L21, L22] →
 (v5 ≠ 0 → ∀ L23 : List Int, L23 = [(0 : Int), (0 : Int), (0 : Int), (0 : Int), (0 : Int), (0 : Int), (0 : Int), (0 : Int), (0 : Int), (0 : Int), (0 : Int), (0 : Int), (0 : Int), (0 : Int), (0 : Int), (0 : Int), (0 : Int), (0 : Int), (0 : Int), (0 : Int), (0 : Int), (0 : Int), (0 : Int), (0 : Int)] → ∃ (I1 : List Int → List (List Int) → Prop) (μ1 : List Int → List (List Int) → Nat), I1 [(0 : Int), (0 : Int)] [L2, L23] ∧
(∀ v6 : Int, ∀ v7 : Int, ∀ L24 : List Int, ∀ L25 : List Int, I1 [v6, v7] [L24, L25] →
 (v7 ≠ 0 → ∃ (I2 : List Int → List (List Int) → Prop) (μ2 : List Int → List (List Int) → Nat), I2 [(0 : Int)] [L21, L22, L3, L4, L5, L6, L7, L8, L9, L10, L11, L12, L13, L14, L15, L16, L17, L18, L20] ∧
(∀ v8 : Int, ∀ L26 : List Int, ∀ L27 : List Int, ∀ L28 : List Int, ∀ L29 : List Int, ∀ L30 : List Int, ∀ L31 : List Int, ∀ L32 : List Int, ∀ L33 : List Int, ∀ L34 : List Int, ∀ L35 : List Int, ∀ L36 : List Int, ∀ L37 : List Int, ∀ L38 : List Int, ∀ L39 : List Int, ∀ L40 : List Int, ∀ L41 : List Int, ∀ L42 : List Int, ∀ L43 : List Int, ∀ L44 : List Int, I2 [v8] [L26, L27, L28, L29, L30, L31, L32, L33, L34, L35, L36, L37, L38, L39, L40, L41, L42, L43, L44] →
 Q [] [])) ∧
(v7 = 0 → (I1 [v6, (1 : Int)] [L24, L25] ∧ μ1 [v6, (1 : Int)] [L24, L25] < μ1 [v6, v7] [L24, L25])))) ∧
(v5 = 0 → ((v4 < v0) → ((v4 < (12 : Int)) → (v4 < v0) ∧ ∀ v8 : Int, v8 = v4 * (4 : Int) → (v8 < v2) ∧ ∀ v9 : Int, v9 = (L0).getD (v8).toNat 0 → ∀ v10 : Int, v10 = v8 + (1 : Int) → (v10 < v2) ∧ ∀ v11 : Int, v11 = (L0).getD (v10).toNat 0 → ∀ v12 : Int, v12 = v8 + (2 : Int) → (v12 < v2) ∧ ∀ v13 : Int, v13 = (L0).getD (v12).toNat 0 → ∀ v14 : Int, v14 = v8 + (3 : Int) → (v14 < v2) ∧ ∀ v15 : Int, v15 = (L0).getD (v14).toNat 0 → (Go.Sx.L2.bFill).rel.pre [v9, v11, v13, v15] [L21] ∧
(∀ v16 : Int, ∀ L23 : List Int, (Go.Sx.L2.bFill).rel.post [v9, v11, v13, v15] [L21] [v16] [L23] → (v4 < v0) ∧ (v8 < v2) ∧ (v10 < v2) ∧ (v12 < v2) ∧ (v14 < v2) ∧ (Go.Sx.L2.rFill).rel.pre [v9, v11, v13, v15] [L22] ∧
(∀ v17 : Int, ∀ L24 : List Int, (Go.Sx.L2.rFill).rel.post [v9, v11, v13, v15] [L22] [v17] [L24] → ∀ v18 : Int, v18 = v4 + (1 : Int) → (I0 [v18, (0 : Int)] [L23, L24] ∧ μ0 [v18, (0 : Int)] [L23, L24] < μ0 [v4, v5] [L21, L22])))) ∧
(((12 : Int) ≤ v4) → (I0 [v4, (1 : Int)] [L21, L22] ∧ μ0 [v4, (1 : Int)] [L21, L22] < μ0 [v4, v5] [L21, L22]))) ∧
((v0 ≤ v4) → (I0 [v4, (1 : Int)] [L21, L22] ∧ μ0 [v4, (1 : Int)] [L21, L22] < μ0 [v4, v5] [L21, L22]))))))))))) := by kernel_rfl
set_option maxHeartbeats 4000000 in
theorem userAll_holds_snn0 : (lawSpec L2.f_messuagelaw11_UserAll [.slc L2.ks4, .nil, .nil]).Holds Tryz.prog L2.ro := FSpec.holdsV (cfg := withS (L2.cfgB Tryz.prog) [L2.kind_ L2.f_messuageref2_Kind, L2.check_ L2.f_messuageref2_Check, L2.lets_ L2.f_messuageref2_Lets, L2.tNew, L2.tInsert, L2.bNew, L2.bFill, L2.bLines, L2.uDo 16, L2.rNew, L2.rFind, L2.rFill, L2.rFlush, L2.rWord, L2.rKNew, L2.mNew16]) [{ f := L2.f_messuagelaw11_UserAll, reg := 9, ints := [(14, 0, 12)], lists := [(8, [], some (-9223372036854775808, 9223372036854775807)), (11, [], some (-9223372036854775808, 9223372036854775807))], join := some 0 }, { f := L2.f_messuagelaw11_UserAll, reg := 14, ints := [(15, 0, 8)], lists := [(9, [], some (-9223372036854775808, 9223372036854775807)), (13, [], some (-9223372036854775808, 9223372036854775807))], join := some 2 }, { f := L2.f_messuagelaw11_UserAll, reg := 19, ints := [(16, 0, 40)], lists := [(8, [], some (-9223372036854775808, 9223372036854775807)), (11, [], some (-9223372036854775808, 9223372036854775807)), (10, [0, 0], some (0, 18446744073709551615)), (10, [0, 1], some (0, 18446744073709551615)), (10, [0, 2], some (0, 18446744073709551615)), (10, [0, 3], some (0, 18446744073709551615)), (10, [0, 4], some (0, 18446744073709551615)), (10, [0, 5], some (0, 18446744073709551615)), (10, [0, 6], some (0, 18446744073709551615)), (10, [0, 7], some (0, 18446744073709551615)), (10, [0, 8], some (0, 18446744073709551615)), (10, [0, 9], some (0, 18446744073709551615)), (10, [0, 10], some (0, 18446744073709551615)), (10, [0, 11], some (0, 18446744073709551615)), (10, [0, 12], some (0, 18446744073709551615)), (10, [0, 13], some (0, 18446744073709551615)), (10, [0, 14], some (0, 18446744073709551615)), (10, [0, 15], some (0, 18446744073709551615)), (12, [], some (-9223372036854775808, 18446744073709551615))] }, { f := L2.f_messuagelaw11_UserAll, reg := 48, ints := [(221, 0, 8)] }] 20 200 (withS_ok cfgB_ok ⟨rKind_holds, rCheck_holds, rLets_holds, tNew_holds, tInsert_holds, bNew_holds, bFill_holds, bLines_holds, uDoM16_holds, rNew_holds, rFind_holds, rFill_holds, rFlush_holds, rWord_holds, rKNew_holds, mNew16_holds, trivial⟩) mixed (t := UserAll_snn_t) UserAll_snn_tree (by
  show ∀ (v0 v1 v2 : Int) (L0 : List Int), _
  intro v0 v1 v2 L0 hp hr hl
  replace hr : ((0 : Int) ≤ v0 ∧ v0 ≤ (9223372036854775807 : Int)) ∧ ((0 : Int) ≤ v1 ∧ v1 ≤ (9223372036854775807 : Int)) ∧ ((0 : Int) ≤ v2 ∧ v2 ≤ (9223372036854775807 : Int) * ((4 : Nat) : Int)) ∧ True := hr
  replace hp : (True ∧ ((0 : Int) ≤ v0 ∧ v0 ≤ v1 ∧ (L0.length : Int) = v0 * ((4 : Nat) : Int) ∧ ((4 : Nat) ≠ 1 → v2 = v0 * ((4 : Nat) : Int)) ∧ ∀ j, j < L0.length → ((oneKind L2.ks4).getD (j % (oneKind L2.ks4).length) (.i .i64)).lo ≤ L0.getD j 0 ∧ L0.getD j 0 ≤ ((oneKind L2.ks4).getD (j % (oneKind L2.ks4).length) (.i .i64)).hi)) := hp
  show UserAll_snn_t.dn ⟨_, []⟩ 3 [v2, v1, v0] 1 [L0]
  rw [UserAll_snn_vc]
  show ((L2.yes L2.f_messuagelaw11_begun).rel.pre [] [] ∧ _)
  refine ⟨trivial, fun _ => ?_⟩
  refine ⟨trivial, fun B0 hB0 => ⟨trivial, fun T0 hT0 => ⟨trivial, fun cap m0 m1 m2 m3 m4 m5 m6 m7 m8 m9 m10 m11 m12 m13 m14 m15 hM0 => ⟨trivial, fun W0 hW0 => ⟨trivial, fun K0 hK0 => ?_⟩⟩⟩⟩⟩
  have hB0' : B0 = clearB (List.replicate 41 0) := (List.cons.inj (show [B0] = [clearB (List.replicate 41 (0 : Int))] from hB0.2)).1
  have hT0' : T0 = List.replicate 24 0 := (List.cons.inj (show [T0] = [List.replicate 24 (0 : Int)] from hT0.2)).1
  have hW0' : W0 = [-1, 0, 0, 0, -1, 0, 0, 0, -1, 0, 0, 0, -1, 0, 0, 0, -1, 0, 0, 0, -1, 0, 0, 0, -1, 0, 0, 0, -1, 0, 0, 0, 0, 0, 0, 0, 0, 0, 0, 0, 0] := (List.cons.inj (show [W0] = [[-1, 0, 0, 0, -1, 0, 0, 0, -1, 0, 0, 0, -1, 0, 0, 0, -1, 0, 0, 0, -1, 0, 0, 0, -1, 0, 0, 0, -1, 0, 0, 0, 0, 0, 0, 0, 0, 0, 0, 0, 0]] from hW0.2)).1
  have hM : [m0, m1, m2, m3, m4, m5, m6, m7, m8, m9, m10, m11, m12, m13, m14, m15] = List.replicate 16 (List.replicate 16 (0 : Int)) := hM0
  have hK : K0 = 1 :: 4 :: 16 :: List.replicate 512 (0 : Int) := (List.cons.inj (show [K0] = [1 :: 4 :: 16 :: List.replicate 512 (0 : Int)] from hK0.2)).1
  have hMR : MR [m0, m1, m2, m3, m4, m5, m6, m7, m8, m9, m10, m11, m12, m13, m14, m15] K0 := ua_mr hM hK
  clear hB0 hT0 hW0 hM0 hK0 hM hK
  refine ⟨fun xs ys => match xs, ys with | [i, g], [B, W] => 0 ≤ i ∧ TB B W ∧ FB B | _, _ => False, fun xs _ => match xs with | [i, g] => 2 * (12 - i).toNat + (if g = 0 then 1 else 0) | _ => 0, ?_, ?_⟩ <;> dsimp only
  · rw [hB0', hW0']; exact ⟨by omega, TB.start, FB.start⟩
  · intro i g B W hI
    obtain ⟨i0, tb, fb⟩ := hI
    clear hB0' hW0'
    refine ⟨fun hg P0 eP => ?_, fun hg => ?_⟩
    · refine ⟨fun xs ys => match xs, ys with | [i, g], [T, P] => 0 ≤ i ∧ TV T ∧ P = T | _, _ => False, fun xs _ => match xs with | [i, g] => 2 * (8 - i).toNat + (if g = 0 then 1 else 0) | _ => 0, ?_, ?_⟩ <;> dsimp only
      · rw [hT0', eP]; exact ⟨by omega, TV.start, rfl⟩
      · intro j q T P hJ
        obtain ⟨j0, hT, hP⟩ := hJ
        subst hP
        clear hT0' eP
        refine ⟨fun hq => ?_, fun hq => ?_⟩
        · refine ⟨fun xs ys => match xs, ys with | [i], [B, W, M0, M1, M2, M3, M4, M5, M6, M7, M8, M9, M10, M11, M12, M13, M14, M15, K] => 0 ≤ i ∧ UA B W [M0, M1, M2, M3, M4, M5, M6, M7, M8, M9, M10, M11, M12, M13, M14, M15] K | _, _ => False, fun xs _ => match xs with | [i] => ((0 : Int) - i).toNat | _ => 0, ?_, ?_⟩ <;> dsimp only
          · exact ⟨by omega, tb, fb, hMR⟩
          · clear tb fb hMR
            intro n B W M0 M1 M2 M3 M4 M5 M6 M7 M8 M9 M10 M11 M12 M13 M14 M15 K hI2
            obtain ⟨n0, u⟩ := hI2
            exact trivial
        · exact ⟨⟨j0, hT, rfl⟩, by (repeat' split) <;> omega⟩
    · have hv : v2 = v0 * 4 := by have := hp.2.2.2.2.1 (by decide); omega
      clear hp hr hl hT0'
      refine ⟨fun c => ⟨fun c2 => ⟨c, fun a ea => ⟨by omega, fun e ee b eb => ⟨by omega, fun p ep d ed => ⟨by omega, fun f ef h eh => ⟨by omega, fun r er => ⟨trivial, fun x B' hb => ⟨c, by omega, by omega, by omega, by omega, trivial, fun x2 W' hw y ey => ?_⟩⟩⟩⟩⟩⟩⟩, fun _ => ⟨⟨i0, tb, fb⟩, by (repeat' split) <;> omega⟩⟩, fun _ => ⟨⟨i0, tb, fb⟩, by (repeat' split) <;> omega⟩⟩
      have h1 : B' = fillB B e p f r := (List.cons.inj (show [B'] = [fillB B e p f r] from hb.2)).1
      have h2 : W' = fillR W e p f r := (List.cons.inj (show [W'] = [fillR W e p f r] from hw.2)).1
      subst h1 h2
      exact ⟨⟨by omega, tb.fill _ _ _ _, fb.fill tb.w _ _ _ _⟩, by (repeat' split) <;> omega⟩)
theorem userAll_holds_snn : ((lawSpec L2.f_messuagelaw11_UserAll [.slc L2.ks4, .nil, .nil]).withPre fun _ => True).Holds Tryz.prog L2.ro := holds_withPre _ userAll_holds_snn0
end Go.Proofs.YtbpilohnhhbbpaaGreatDoor
/- A part of the proof of messuagelaw11.UserAll: some of the arguments nil. -/
set_option linter.unusedVariables false
set_option linter.unusedSimpArgs false
open Go Go.Sx
namespace Go.Proofs.YtbpilohnhhbbpaaGreatDoor
open Go.ChangeShapes Go.WideShapes Go.RowKit
set_option maxRecDepth 100000
noncomputable def UserAll_nsn_t : Tree := .call 19 (Go.Sx.L2.yes Go.Sx.L2.f_messuagelaw11_begun).rel [] [] 0 0 (.call 16 (Go.Sx.L2.bNew).rel [] [] 0 1 (.call 17 (Go.Sx.L2.tNew).rel [] [] 0 1 (.call 18 (Go.Sx.L2.mNew16).rel [] [] 1 16 (.call 37 (Go.Sx.L2.rNew).rel [] [] 0 1 (.call 38 (Go.Sx.L2.rKNew).rel [] [] 0 1 (.loop [.c (0), .c (0)] [1, 19] (.ite (.v 5) (.exit (.letL (.lit [.c (0), .c (0), .c (0), .c (0), .c (0), .c (0), .c (0), .c (0), .c (0), .c (0), .c (0), .c (0), .c (0), .c (0), .c (0), .c (0), .c (0), .c (0), .c (0), .c (0), .c (0), .c (0), .c (0), .c (0)]) (.loop [.c (0), .c (0)] [2, 23] (.ite (.v 7) (.exit (.loop [.c (0)] [21, 22, 3, 4, 5, 6, 7, 8, 9, 10, 11, 12, 13, 14, 15, 16, 17, 18, 20] (.exit (.done [] [])))) (.letI (.cmp .lss (.v 6) (.v 0)) (.ite (.v 8) (.letI (.cmp .lss (.v 6) (.c 8)) (.ite (.v 9) (.need .lss (.v 6) (.v 0) (.letI (.mul (.v 6) (.c 3)) (.need .lss (.v 10) (.v 2) (.letI (.get 0 (.v 10)) (.letI (.add (.v 10) (.c 1)) (.need .lss (.v 12) (.v 2) (.letI (.get 0 (.v 12)) (.letI (.add (.v 10) (.c 2)) (.need .lss (.v 14) (.v 2) (.letI (.get 0 (.v 14)) (.call 41 (Go.Sx.L2.tInsert).rel [.v 6, .v 11, .v 13, .v 15] [24] 1 1 (.letI (.cmp .eql (.v 16) (.c 0)) (.ite (.v 17) (.need .lss (.v 6) (.v 0) (.need .lss (.v 10) (.v 2) (.need .lss (.v 12) (.v 2) (.need .lss (.v 14) (.v 2) (.letL (.set 25 (.v 10) (.v 11)) (.letL (.set 27 (.v 12) (.v 13)) (.letL (.set 28 (.v 14) (.v 15)) (.letI (.add (.v 6) (.c 1)) (.again [.v 18, .c (0)] [26, 29]))))))))) (.letI (.add (.v 6) (.c 1)) (.again [.v 18, .c (0)] [26, 25]))))))))))))))) (.again [.v 6, .c (1)] [24, 25]))) (.again [.v 6, .c (1)] [24, 25]))))))) (.again [.v 4, .c (1)] [21, 22]))))))))
theorem UserAll_nsn_tree : (lawSpec L2.f_messuagelaw11_UserAll [.nil, .slc L2.ks3, .nil]).exe Tryz.prog (withS (L2.cfgB Tryz.prog) [L2.kind_ L2.f_messuageref2_Kind, L2.check_ L2.f_messuageref2_Check, L2.lets_ L2.f_messuageref2_Lets, L2.tNew, L2.tInsert, L2.bNew, L2.bFill, L2.bLines, L2.uDo 16, L2.rNew, L2.rFind, L2.rFill, L2.rFlush, L2.rWord, L2.rKNew, L2.mNew16]) [{ f := L2.f_messuagelaw11_UserAll, reg := 9, ints := [(14, 0, 12)], lists := [(8, [], some (-9223372036854775808, 9223372036854775807)), (11, [], some (-9223372036854775808, 9223372036854775807))], join := some 0 }, { f := L2.f_messuagelaw11_UserAll, reg := 14, ints := [(15, 0, 8)], lists := [(9, [], some (-9223372036854775808, 9223372036854775807)), (13, [], some (-9223372036854775808, 9223372036854775807))], join := some 2 }, { f := L2.f_messuagelaw11_UserAll, reg := 19, ints := [(16, 0, 40)], lists := [(8, [], some (-9223372036854775808, 9223372036854775807)), (11, [], some (-9223372036854775808, 9223372036854775807)), (10, [0, 0], some (0, 18446744073709551615)), (10, [0, 1], some (0, 18446744073709551615)), (10, [0, 2], some (0, 18446744073709551615)), (10, [0, 3], some (0, 18446744073709551615)), (10, [0, 4], some (0, 18446744073709551615)), (10, [0, 5], some (0, 18446744073709551615)), (10, [0, 6], some (0, 18446744073709551615)), (10, [0, 7], some (0, 18446744073709551615)), (10, [0, 8], some (0, 18446744073709551615)), (10, [0, 9], some (0, 18446744073709551615)), (10, [0, 10], some (0, 18446744073709551615)), (10, [0, 11], some (0, 18446744073709551615)), (10, [0, 12], some (0, 18446744073709551615)), (10, [0, 13], some (0, 18446744073709551615)), (10, [0, 14], some (0, 18446744073709551615)), (10, [0, 15], some (0, 18446744073709551615)), (12, [], some (-9223372036854775808, 18446744073709551615))] }, { f := L2.f_messuagelaw11_UserAll, reg := 48, ints := [(221, 0, 8)] }] 20 200 = UserAll_nsn_t := by kernel_rfl
theorem UserAll_nsn_vc (Q : List Int → List (List Int) → Prop) (v0 v1 v2 : Int) (L0 : List Int) : UserAll_nsn_t.dn ⟨Q, []⟩ 3 [v2, v1, v0] 1 [L0] = ((Go.Sx.L2.yes Go.Sx.L2.f_messuagelaw11_begun).rel.pre [] [] ∧
((Go.Sx.L2.yes Go.Sx.L2.f_messuagelaw11_begun).rel.post [] [] [] [] → (Go.Sx.L2.bNew).rel.pre [] [] ∧
(∀ L1 : List Int, (Go.Sx.L2.bNew).rel.post [] [] [] [L1] → (Go.Sx.L2.tNew).rel.pre [] [] ∧
(∀ L2 : List Int, (Go.Sx.L2.tNew).rel.post [] [] [] [L2] → (Go.Sx.L2.mNew16).rel.pre [] [] ∧
(∀ v3 : Int, ∀ L3 : List Int, ∀ L4 : List Int, ∀ L5 : List Int, ∀ L6 : List Int, ∀ L7 : List Int, ∀ L8 : List Int, ∀ L9 : List Int, ∀ L10 : List Int, ∀ L11 : List Int, ∀ L12 : List Int, ∀ L13 : List Int, ∀ L14 : List Int, ∀ L15 : List Int, ∀ L16 : List Int, ∀ L17 : List Int, ∀ L18 : List Int, (Go.Sx.L2.mNew16).rel.post [] [] [v3] [L3, L4, L5, L6, L7, L8, L9, L10, L11, L12, L13, L14, L15, L16, L17, L18] → (Go.Sx.L2.rNew).rel.pre [] [] ∧
(∀ L19 : List Int, (Go.Sx.L2.rNew).rel.post [] [] [] [L19] → (Go.Sx.L2.rKNew).rel.pre [] [] ∧
(∀ L20 : List Int, (Go.Sx.L2.rKNew).rel.post [] [] [] [L20] → ∃ (I0 : List Int → List (List Int) → Prop) (μ0 : List Int → List (List Int) → Nat), I0 [(0 : Int), (0 : Int)] [L1, L19] ∧
(∀ v4 : Int, ∀ v5 : Int, ∀ L21 : List Int, ∀ L22 : List Int, I0 [v4, v5] [L21, L22] →
 (v5 ≠ 0 → ∀ L23 : List Int, L23 = [(0 : Int), (0 : Int), (0 : Int), (0 : Int), (0 : Int), (0 : Int), (0 : Int), (0 : Int), (0 : Int), (0 : Int), (0 : Int), (0 : Int), (0 : Int), (0 : Int), (0 : Int), (0 : Int), (0 : Int), (0 : Int), (0 : Int), (0 : Int), (0 : Int), (0 : Int), (0 : Int), (0 : Int)] → ∃ (I1 : List Int → List (List Int) → Prop) (μ1 : List Int → List (List Int) → Nat), I1 [(0 : Int), (0 : Int)] [L2, L23] ∧
(∀ v6 : Int, ∀ v7 : Int, ∀ L24 : List Int, ∀ L25 : List Int, I1 [v6, v7] [L24, L25] →
 (v7 ≠ 0 → ∃ (I2 : List Int → List (List Int) → Prop) (μ2 : List Int → List (List Int) → Nat), I2 [(0 : Int)] [L21, L22, L3, L4, L5, L6, L7, L8, L9, L10, L11, L12, L13, L14, L15, L16, L17, L18, L20] ∧
(∀ v8 : Int, ∀ L26 : List Int, ∀ L27 : List Int, ∀ L28 : List Int, ∀ L29 : List Int, ∀ L30 : List Int, ∀ L31 : List Int, ∀ L32 : List Int, ∀ L33 : List Int, ∀ L34 : List Int, ∀ L35 : List Int, ∀ L36 : List Int, ∀ L37 : List Int, ∀ L38 : List Int, ∀ L39 : List Int, ∀ L40 : List Int, ∀ L41 : List Int, ∀ L42 : List Int, ∀ L43 : List Int, ∀ L44 : List Int, I2 [v8] [L26, L27, L28, L29, L30, L31, L32, L33, L34, L35, L36, L37, L38, L39, L40, L41, L42, L43, L44] →
 Q [] [])) ∧
(v7 = 0 → ((v6 < v0) → ((v6 < (8 : Int)) → (v6 < v0) ∧ ∀ v10 : Int, v10 = v6 * (3 : Int) → (v10 < v2) ∧ ∀ v11 : Int, v11 = (L0).getD (v10).toNat 0 → ∀ v12 : Int, v12 = v10 + (1 : Int) → (v12 < v2) ∧ ∀ v13 : Int, v13 = (L0).getD (v12).toNat 0 → ∀ v14 : Int, v14 = v10 + (2 : Int) → (v14 < v2) ∧ ∀ v15 : Int, v15 = (L0).getD (v14).toNat 0 → (Go.Sx.L2.tInsert).rel.pre [v6, v11, v13, v15] [L24] ∧
(∀ v16 : Int, ∀ L26 : List Int, (Go.Sx.L2.tInsert).rel.post [v6, v11, v13, v15] [L24] [v16] [L26] → ((v16 = (0 : Int)) → (v6 < v0) ∧ (v10 < v2) ∧ (v12 < v2) ∧ (v14 < v2) ∧ ∀ L27 : List Int, L27 = (L25).set (v10).toNat v11 → ∀ L28 : List Int, L28 = (L27).set (v12).toNat v13 → ∀ L29 : List Int, L29 = (L28).set (v14).toNat v15 → ∀ v18 : Int, v18 = v6 + (1 : Int) → (I1 [v18, (0 : Int)] [L26, L29] ∧ μ1 [v18, (0 : Int)] [L26, L29] < μ1 [v6, v7] [L24, L25])) ∧
((v16 ≠ (0 : Int)) → ∀ v18 : Int, v18 = v6 + (1 : Int) → (I1 [v18, (0 : Int)] [L26, L25] ∧ μ1 [v18, (0 : Int)] [L26, L25] < μ1 [v6, v7] [L24, L25])))) ∧
(((8 : Int) ≤ v6) → (I1 [v6, (1 : Int)] [L24, L25] ∧ μ1 [v6, (1 : Int)] [L24, L25] < μ1 [v6, v7] [L24, L25]))) ∧
((v0 ≤ v6) → (I1 [v6, (1 : Int)] [L24, L25] ∧ μ1 [v6, (1 : Int)] [L24, L25] < μ1 [v6, v7] [L24, L25]))))) ∧
(v5 = 0 → (I0 [v4, (1 : Int)] [L21, L22] ∧ μ0 [v4, (1 : Int)] [L21, L22] < μ0 [v4, v5] [L21, L22])))))))))) := by kernel_rfl
set_option maxHeartbeats 4000000 in
theorem userAll_holds_nsn0 : (lawSpec L2.f_messuagelaw11_UserAll [.nil, .slc L2.ks3, .nil]).Holds Tryz.prog L2.ro := FSpec.holdsV (cfg := withS (L2.cfgB Tryz.prog) [L2.kind_ L2.f_messuageref2_Kind, L2.check_ L2.f_messuageref2_Check, L2.lets_ L2.f_messuageref2_Lets, L2.tNew, L2.tInsert, L2.bNew, L2.bFill, L2.bLines, L2.uDo 16, L2.rNew, L2.rFind, L2.rFill, L2.rFlush, L2.rWord, L2.rKNew, L2.mNew16]) [{ f := L2.f_messuagelaw11_UserAll, reg := 9, ints := [(14, 0, 12)], lists := [(8, [], some (-9223372036854775808, 9223372036854775807)), (11, [], some (-9223372036854775808, 9223372036854775807))], join := some 0 }, { f := L2.f_messuagelaw11_UserAll, reg := 14, ints := [(15, 0, 8)], lists := [(9, [], some (-9223372036854775808, 9223372036854775807)), (13, [], some (-9223372036854775808, 9223372036854775807))], join := some 2 }, { f := L2.f_messuagelaw11_UserAll, reg := 19, ints := [(16, 0, 40)], lists := [(8, [], some (-9223372036854775808, 9223372036854775807)), (11, [], some (-9223372036854775808, 9223372036854775807)), (10, [0, 0], some (0, 18446744073709551615)), (10, [0, 1], some (0, 18446744073709551615)), (10, [0, 2], some (0, 18446744073709551615)), (10, [0, 3], some (0, 18446744073709551615)), (10, [0, 4], some (0, 18446744073709551615)), (10, [0, 5], some (0, 18446744073709551615)), (10, [0, 6], some (0, 18446744073709551615)), (10, [0, 7], some (0, 18446744073709551615)), (10, [0, 8], some (0, 18446744073709551615)), (10, [0, 9], some (0, 18446744073709551615)), (10, [0, 10], some (0, 18446744073709551615)), (10, [0, 11], some (0, 18446744073709551615)), (10, [0, 12], some (0, 18446744073709551615)), (10, [0, 13], some (0, 18446744073709551615)), (10, [0, 14], some (0, 18446744073709551615)), (10, [0, 15], some (0, 18446744073709551615)), (12, [], some (-9223372036854775808, 18446744073709551615))] }, { f := L2.f_messuagelaw11_UserAll, reg := 48, ints := [(221, 0, 8)] }] 20 200 (withS_ok cfgB_ok ⟨rKind_holds, rCheck_holds, rLets_holds, tNew_holds, tInsert_holds, bNew_holds, bFill_holds, bLines_holds, uDoM16_holds, rNew_holds, rFind_holds, rFill_holds, rFlush_holds, rWord_holds, rKNew_holds, mNew16_holds, trivial⟩) mixed (t := UserAll_nsn_t) UserAll_nsn_tree (by
  show ∀ (v0 v1 v2 : Int) (L0 : List Int), _
  intro v0 v1 v2 L0 hp hr hl
  replace hr : ((0 : Int) ≤ v0 ∧ v0 ≤ (9223372036854775807 : Int)) ∧ ((0 : Int) ≤ v1 ∧ v1 ≤ (9223372036854775807 : Int)) ∧ ((0 : Int) ≤ v2 ∧ v2 ≤ (9223372036854775807 : Int) * ((3 : Nat) : Int)) ∧ True := hr
  replace hp : (True ∧ ((0 : Int) ≤ v0 ∧ v0 ≤ v1 ∧ (L0.length : Int) = v0 * ((3 : Nat) : Int) ∧ ((3 : Nat) ≠ 1 → v2 = v0 * ((3 : Nat) : Int)) ∧ ∀ j, j < L0.length → ((oneKind L2.ks3).getD (j % (oneKind L2.ks3).length) (.i .i64)).lo ≤ L0.getD j 0 ∧ L0.getD j 0 ≤ ((oneKind L2.ks3).getD (j % (oneKind L2.ks3).length) (.i .i64)).hi)) := hp
  show UserAll_nsn_t.dn ⟨_, []⟩ 3 [v2, v1, v0] 1 [L0]
  rw [UserAll_nsn_vc]
  show ((L2.yes L2.f_messuagelaw11_begun).rel.pre [] [] ∧ _)
  refine ⟨trivial, fun _ => ?_⟩
  refine ⟨trivial, fun B0 hB0 => ⟨trivial, fun T0 hT0 => ⟨trivial, fun cap m0 m1 m2 m3 m4 m5 m6 m7 m8 m9 m10 m11 m12 m13 m14 m15 hM0 => ⟨trivial, fun W0 hW0 => ⟨trivial, fun K0 hK0 => ?_⟩⟩⟩⟩⟩
  have hB0' : B0 = clearB (List.replicate 41 0) := (List.cons.inj (show [B0] = [clearB (List.replicate 41 (0 : Int))] from hB0.2)).1
  have hT0' : T0 = List.replicate 24 0 := (List.cons.inj (show [T0] = [List.replicate 24 (0 : Int)] from hT0.2)).1
  have hW0' : W0 = [-1, 0, 0, 0, -1, 0, 0, 0, -1, 0, 0, 0, -1, 0, 0, 0, -1, 0, 0, 0, -1, 0, 0, 0, -1, 0, 0, 0, -1, 0, 0, 0, 0, 0, 0, 0, 0, 0, 0, 0, 0] := (List.cons.inj (show [W0] = [[-1, 0, 0, 0, -1, 0, 0, 0, -1, 0, 0, 0, -1, 0, 0, 0, -1, 0, 0, 0, -1, 0, 0, 0, -1, 0, 0, 0, -1, 0, 0, 0, 0, 0, 0, 0, 0, 0, 0, 0, 0]] from hW0.2)).1
  have hM : [m0, m1, m2, m3, m4, m5, m6, m7, m8, m9, m10, m11, m12, m13, m14, m15] = List.replicate 16 (List.replicate 16 (0 : Int)) := hM0
  have hK : K0 = 1 :: 4 :: 16 :: List.replicate 512 (0 : Int) := (List.cons.inj (show [K0] = [1 :: 4 :: 16 :: List.replicate 512 (0 : Int)] from hK0.2)).1
  have hMR : MR [m0, m1, m2, m3, m4, m5, m6, m7, m8, m9, m10, m11, m12, m13, m14, m15] K0 := ua_mr hM hK
  clear hB0 hT0 hW0 hM0 hK0 hM hK
  refine ⟨fun xs ys => match xs, ys with | [i, g], [B, W] => 0 ≤ i ∧ TB B W ∧ FB B | _, _ => False, fun xs _ => match xs with | [i, g] => 2 * (12 - i).toNat + (if g = 0 then 1 else 0) | _ => 0, ?_, ?_⟩ <;> dsimp only
  · rw [hB0', hW0']; exact ⟨by omega, TB.start, FB.start⟩
  · intro i g B W hI
    obtain ⟨i0, tb, fb⟩ := hI
    clear hB0' hW0'
    refine ⟨fun hg P0 eP => ?_, fun hg => ?_⟩
    · refine ⟨fun xs ys => match xs, ys with | [i, g], [T, P] => 0 ≤ i ∧ TV T ∧ P = T | _, _ => False, fun xs _ => match xs with | [i, g] => 2 * (8 - i).toNat + (if g = 0 then 1 else 0) | _ => 0, ?_, ?_⟩ <;> dsimp only
      · rw [hT0', eP]; exact ⟨by omega, TV.start, rfl⟩
      · intro j q T P hJ
        obtain ⟨j0, hT, hP⟩ := hJ
        subst hP
        clear hT0' eP
        refine ⟨fun hq => ?_, fun hq => ?_⟩
        · refine ⟨fun xs ys => match xs, ys with | [i], [B, W, M0, M1, M2, M3, M4, M5, M6, M7, M8, M9, M10, M11, M12, M13, M14, M15, K] => 0 ≤ i ∧ UA B W [M0, M1, M2, M3, M4, M5, M6, M7, M8, M9, M10, M11, M12, M13, M14, M15] K | _, _ => False, fun xs _ => match xs with | [i] => ((0 : Int) - i).toNat | _ => 0, ?_, ?_⟩ <;> dsimp only
          · exact ⟨by omega, tb, fb, hMR⟩
          · clear tb fb hMR
            intro n B W M0 M1 M2 M3 M4 M5 M6 M7 M8 M9 M10 M11 M12 M13 M14 M15 K hI2
            obtain ⟨n0, u⟩ := hI2
            exact trivial
        · have hv : v2 = v0 * 3 := by have := hp.2.2.2.2.1 (by decide); omega
          clear hp hr hl
          refine ⟨fun c => ⟨fun c2 => ⟨c, fun a ea => ⟨by omega, fun f ef b eb => ⟨by omega, fun s es d ed => ⟨by omega, fun r er => ⟨trivial, fun x T' hI => ?_⟩⟩⟩⟩⟩, fun _ => ⟨⟨j0, hT, rfl⟩, by (repeat' split) <;> omega⟩⟩, fun _ => ⟨⟨j0, hT, rfl⟩, by (repeat' split) <;> omega⟩⟩
          have h1 : x = insE P j f s r := (List.cons.inj (show [x] = [insE P j f s r] from hI.1)).1
          have h2 : T' = insL P j f s r := (List.cons.inj (show [T'] = [insL P j f s r] from hI.2)).1
          subst h1 h2
          refine ⟨fun z => ⟨c, by omega, by omega, by omega, fun P1 g1 P2 g2 P3 g3 y ey => ⟨⟨by omega, hT.ins _ _ _ _, ?_⟩, by (repeat' split) <;> omega⟩⟩, fun z y ey => ⟨⟨by omega, hT.ins _ _ _ _, ?_⟩, by (repeat' split) <;> omega⟩⟩
          · unfold insL; rw [if_pos z, g3, g2, g1, eb, ed, ea]; rfl
          · unfold insL; rw [if_neg z]
    · exact ⟨⟨i0, tb, fb⟩, by (repeat' split) <;> omega⟩)
theorem userAll_holds_nsn : ((lawSpec L2.f_messuagelaw11_UserAll [.nil, .slc L2.ks3, .nil]).withPre fun _ => True).Holds Tryz.prog L2.ro := holds_withPre _ userAll_holds_nsn0
end Go.Proofs.YtbpilohnhhbbpaaGreatDoor
/- A part of the proof of messuagelaw11.UserAll: some of the arguments nil. -/
set_option linter.unusedVariables false
set_option linter.unusedSimpArgs false
open Go Go.Sx
namespace Go.Proofs.YtbpilohnhhbbpaaGreatDoor
open Go.ChangeShapes Go.WideShapes Go.RowKit
set_option maxRecDepth 100000
noncomputable def UserAll_ssn_t : Tree := .call 19 (Go.Sx.L2.yes Go.Sx.L2.f_messuagelaw11_begun).rel [] [] 0 0 (.call 16 (Go.Sx.L2.bNew).rel [] [] 0 1 (.call 17 (Go.Sx.L2.tNew).rel [] [] 0 1 (.call 18 (Go.Sx.L2.mNew16).rel [] [] 1 16 (.call 37 (Go.Sx.L2.rNew).rel [] [] 0 1 (.call 38 (Go.Sx.L2.rKNew).rel [] [] 0 1 (.loop [.c (0), .c (0)] [2, 20] (.ite (.v 8) (.exit (.letL (.lit [.c (0), .c (0), .c (0), .c (0), .c (0), .c (0), .c (0), .c (0), .c (0), .c (0), .c (0), .c (0), .c (0), .c (0), .c (0), .c (0), .c (0), .c (0), .c (0), .c (0), .c (0), .c (0), .c (0), .c (0)]) (.loop [.c (0), .c (0)] [3, 24] (.ite (.v 10) (.exit (.loop [.c (0)] [22, 23, 4, 5, 6, 7, 8, 9, 10, 11, 12, 13, 14, 15, 16, 17, 18, 19, 21] (.exit (.done [] [])))) (.letI (.cmp .lss (.v 9) (.v 3)) (.ite (.v 11) (.letI (.cmp .lss (.v 9) (.c 8)) (.ite (.v 12) (.need .lss (.v 9) (.v 3) (.letI (.mul (.v 9) (.c 3)) (.need .lss (.v 13) (.v 5) (.letI (.get 1 (.v 13)) (.letI (.add (.v 13) (.c 1)) (.need .lss (.v 15) (.v 5) (.letI (.get 1 (.v 15)) (.letI (.add (.v 13) (.c 2)) (.need .lss (.v 17) (.v 5) (.letI (.get 1 (.v 17)) (.call 41 (Go.Sx.L2.tInsert).rel [.v 9, .v 14, .v 16, .v 18] [25] 1 1 (.letI (.cmp .eql (.v 19) (.c 0)) (.ite (.v 20) (.need .lss (.v 9) (.v 3) (.need .lss (.v 13) (.v 5) (.need .lss (.v 15) (.v 5) (.need .lss (.v 17) (.v 5) (.letL (.set 26 (.v 13) (.v 14)) (.letL (.set 28 (.v 15) (.v 16)) (.letL (.set 29 (.v 17) (.v 18)) (.letI (.add (.v 9) (.c 1)) (.again [.v 21, .c (0)] [27, 30]))))))))) (.letI (.add (.v 9) (.c 1)) (.again [.v 21, .c (0)] [27, 26]))))))))))))))) (.again [.v 9, .c (1)] [25, 26]))) (.again [.v 9, .c (1)] [25, 26]))))))) (.letI (.cmp .lss (.v 7) (.v 0)) (.ite (.v 9) (.letI (.cmp .lss (.v 7) (.c 12)) (.ite (.v 10) (.need .lss (.v 7) (.v 0) (.letI (.mul (.v 7) (.c 4)) (.need .lss (.v 11) (.v 2) (.letI (.get 0 (.v 11)) (.letI (.add (.v 11) (.c 1)) (.need .lss (.v 13) (.v 2) (.letI (.get 0 (.v 13)) (.letI (.add (.v 11) (.c 2)) (.need .lss (.v 15) (.v 2) (.letI (.get 0 (.v 15)) (.letI (.add (.v 11) (.c 3)) (.need .lss (.v 17) (.v 2) (.letI (.get 0 (.v 17)) (.call 39 (Go.Sx.L2.bFill).rel [.v 12, .v 14, .v 16, .v 18] [22] 1 1 (.need .lss (.v 7) (.v 0) (.need .lss (.v 11) (.v 2) (.need .lss (.v 13) (.v 2) (.need .lss (.v 15) (.v 2) (.need .lss (.v 17) (.v 2) (.call 40 (Go.Sx.L2.rFill).rel [.v 12, .v 14, .v 16, .v 18] [23] 1 1 (.letI (.add (.v 7) (.c 1)) (.again [.v 21, .c (0)] [24, 25])))))))))))))))))))))) (.again [.v 7, .c (1)] [22, 23]))) (.again [.v 7, .c (1)] [22, 23]))))))))))
theorem UserAll_ssn_tree : (lawSpec L2.f_messuagelaw11_UserAll [.slc L2.ks4, .slc L2.ks3, .nil]).exe Tryz.prog (withS (L2.cfgB Tryz.prog) [L2.kind_ L2.f_messuageref2_Kind, L2.check_ L2.f_messuageref2_Check, L2.lets_ L2.f_messuageref2_Lets, L2.tNew, L2.tInsert, L2.bNew, L2.bFill, L2.bLines, L2.uDo 16, L2.rNew, L2.rFind, L2.rFill, L2.rFlush, L2.rWord, L2.rKNew, L2.mNew16]) [{ f := L2.f_messuagelaw11_UserAll, reg := 9, ints := [(14, 0, 12)], lists := [(8, [], some (-9223372036854775808, 9223372036854775807)), (11, [], some (-9223372036854775808, 9223372036854775807))], join := some 0 }, { f := L2.f_messuagelaw11_UserAll, reg := 14, ints := [(15, 0, 8)], lists := [(9, [], some (-9223372036854775808, 9223372036854775807)), (13, [], some (-9223372036854775808, 9223372036854775807))], join := some 2 }, { f := L2.f_messuagelaw11_UserAll, reg := 19, ints := [(16, 0, 40)], lists := [(8, [], some (-9223372036854775808, 9223372036854775807)), (11, [], some (-9223372036854775808, 9223372036854775807)), (10, [0, 0], some (0, 18446744073709551615)), (10, [0, 1], some (0, 18446744073709551615)), (10, [0, 2], some (0, 18446744073709551615)), (10, [0, 3], some (0, 18446744073709551615)), (10, [0, 4], some (0, 18446744073709551615)), (10, [0, 5], some (0, 18446744073709551615)), (10, [0, 6], some (0, 18446744073709551615)), (10, [0, 7], some (0, 18446744073709551615)), (10, [0, 8], some (0, 18446744073709551615)), (10, [0, 9], some (0, 18446744073709551615)), (10, [0, 10], some (0, 18446744073709551615)), (10, [0, 11], some (0, 18446744073709551615)), (10, [0, 12], some (0, 18446744073709551615)), (10, [0, 13], some (0, 18446744073709551615)), (10, [0, 14], some (0, 18446744073709551615)), (10, [0, 15], some (0, 18446744073709551615)), (12, [], some (-9223372036854775808, 18446744073709551615))] }, { f := L2.f_messuagelaw11_UserAll, reg := 48, ints := [(221, 0, 8)] }] 20 200 = UserAll_ssn_t := by kernel_rfl
theorem UserAll_ssn_vc (Q : List Int → List (List Int) → Prop) (v0 v1 v2 v3 v4 v5 : Int) (L0 L1 : List Int) : UserAll_ssn_t.dn ⟨Q, []⟩ 6 [v5, v4, v3, v2, v1, v0] 2 [L1, L0] = ((Go.Sx.L2.yes Go.Sx.L2.f_messuagelaw11_begun).rel.pre [] [] ∧
((Go.Sx.L2.yes Go.Sx.L2.f_messuagelaw11_begun).rel.post [] [] [] [] → (Go.Sx.L2.bNew).rel.pre [] [] ∧
(∀ L2 : List Int, (Go.Sx.L2.bNew).rel.post [] [] [] [L2] → (Go.Sx.L2.tNew).rel.pre [] [] ∧
(∀ L3 : List Int, (Go.Sx.L2.tNew).rel.post [] [] [] [L3] → (Go.Sx.L2.mNew16).rel.pre [] [] ∧
(∀ v6 : Int, ∀ L4 : List Int, ∀ L5 : List Int, ∀ L6 : List Int, ∀ L7 : List Int, ∀ L8 : List Int, ∀ L9 : List Int, ∀ L10 : List Int, ∀ L11 : List Int, ∀ L12 : List Int, ∀ L13 : List Int, ∀ L14 : List Int, ∀ L15 : List Int, ∀ L16 : List Int, ∀ L17 : List Int, ∀ L18 : List Int, ∀ L19 : List Int, (Go.Sx.L2.mNew16).rel.post [] [] [v6] [L4, L5, L6, L7, L8, L9, L10, L11, L12, L13, L14, L15, L16, L17, L18, L19] → (Go.Sx.L2.rNew).rel.pre [] [] ∧
(∀ L20 : List Int, (Go.Sx.L2.rNew).rel.post [] [] [] [L20] → (Go.Sx.L2.rKNew).rel.pre [] [] ∧
(∀ L21 : List Int, (Go.Sx.L2.rKNew).rel.post [] [] [] [L21] → ∃ (I0 : List Int → List (List Int) → Prop) (μ0 : List Int → List (List Int) → Nat), I0 [(0 : Int), (0 : Int)] [L2, L20] ∧
(∀ v7 : Int, ∀ v8 : Int, ∀ L22 : List Int, ∀ L23 : List Int, I0 [v7, v8] [L22, L23] →
 (v8 ≠ 0 → ∀ L24 : List Int, L24 = [(0 : Int), (0 : Int), (0 : Int), (0 : Int), (0 : Int), (0 : Int), (0 : Int), (0 : Int), (0 : Int), (0 : Int), (0 : Int), (0 : Int), (0 : Int), (0 : Int), (0 : Int), (0 : Int), (0 : Int), (0 : Int), (0 : Int), (0 : Int), (0 : Int), (0 : Int), (0 : Int), (0 : Int)] → ∃ (I1 : List Int → List (List Int) → Prop) (μ1 : List Int → List (List Int) → Nat), I1 [(0 : Int), (0 : Int)] [L3, L24] ∧
(∀ v9 : Int, ∀ v10 : Int, ∀ L25 : List Int, ∀ L26 : List Int, I1 [v9, v10] [L25, L26] →
 (v10 ≠ 0 → ∃ (I2 : List Int → List (List Int) → Prop) (μ2 : List Int → List (List Int) → Nat), I2 [(0 : Int)] [L22, L23, L4, L5, L6, L7, L8, L9, L10, L11, L12, L13, L14, L15, L16, L17, L18, L19, L21] ∧
(∀ v11 : Int, ∀ L27 : List Int, ∀ L28 : List Int, ∀ L29 : List Int, ∀ L30 : List Int, ∀ L31 : List Int, ∀ L32 : List Int, ∀ L33 : List Int, ∀ L34 : List Int, ∀ L35 : List Int, ∀ L36 : List Int, ∀ L37 : List Int, ∀ L38 : List Int, ∀ L39 : List Int, ∀ L40 : List Int, ∀ L41 : List Int, ∀ L42 : List Int, ∀ L43 : List Int, ∀ L44 : List Int, ∀ L45 : List Int, I2 [v11] [L27, L28, L29, L30, L31, L32, L33, L34, L35, L36, L37, L38, L39, L40, L41, L42, L43, L44, L45] →
 Q [] [])) ∧
(v10 = 0 → ((v9 < v3) → ((v9 < (8 : Int)) → (v9 < v3) ∧ ∀ v13 : Int, v13 = v9 * (3 : Int) → (v13 < v5) ∧ ∀ v14 : Int, v14 = (L1).getD (v13).toNat 0 → ∀ v15 : Int, v15 = v13 + (1 : Int) → (v15 < v5) ∧ ∀ v16 : Int, v16 = (L1).getD (v15).toNat 0 → ∀ v17 : Int, v17 = v13 + (2 : Int) → (v17 < v5) ∧ ∀ v18 : Int, v18 = (L1).getD (v17).toNat 0 → (Go.Sx.L2.tInsert).rel.pre [v9, v14, v16, v18] [L25] ∧
(∀ v19 : Int, ∀ L27 : List Int, (Go.Sx.L2.tInsert).rel.post [v9, v14, v16, v18] [L25] [v19] [L27] → ((v19 = (0 : Int)) → (v9 < v3) ∧ (v13 < v5) ∧ (v15 < v5) ∧ (v17 < v5) ∧ ∀ L28 : List Int, L28 = (L26).set (v13).toNat v14 → ∀ L29 : List Int, L29 = (L28).set (v15).toNat v16 → ∀ L30 : List Int, L30 = (L29).set (v17).toNat v18 → ∀ v21 : Int, v21 = v9 + (1 : Int) → (I1 [v21, (0 : Int)] [L27, L30] ∧ μ1 [v21, (0 : Int)] [L27, L30] < μ1 [v9, v10] [L25, L26])) ∧
((v19 ≠ (0 : Int)) → ∀ v21 : Int, v21 = v9 + (1 : Int) → (I1 [v21, (0 : Int)] [L27, L26] ∧ μ1 [v21, (0 : Int)] [L27, L26] < μ1 [v9, v10] [L25, L26])))) ∧
(((8 : Int) ≤ v9) → (I1 [v9, (1 : Int)] [L25, L26] ∧ μ1 [v9, (1 : Int)] [L25, L26] < μ1 [v9, v10] [L25, L26]))) ∧
((v3 ≤ v9) → (I1 [v9, (1 : Int)] [L25, L26] ∧ μ1 [v9, (1 : Int)] [L25, L26] < μ1 [v9, v10] [L25, L26]))))) ∧
(v8 = 0 → ((v7 < v0) → ((v7 < (12 : Int)) → (v7 < v0) ∧ ∀ v11 : Int, v11 = v7 * (4 : Int) → (v11 < v2) ∧ ∀ v12 : Int, v12 = (L0).getD (v11).toNat 0 → ∀ v13 : Int, v13 = v11 + (1 : Int) → (v13 < v2) ∧ ∀ v14 : Int, v14 = (L0).getD (v13).toNat 0 → ∀ v15 : Int, v15 = v11 + (2 : Int) → (v15 < v2) ∧ ∀ v16 : Int, v16 = (L0).getD (v15).toNat 0 → ∀ v17 : Int, v17 = v11 + (3 : Int) → (v17 < v2) ∧ ∀ v18 : Int, v18 = (L0).getD (v17).toNat 0 → (Go.Sx.L2.bFill).rel.pre [v12, v14, v16, v18] [L22] ∧
(∀ v19 : Int, ∀ L24 : List Int, (Go.Sx.L2.bFill).rel.post [v12, v14, v16, v18] [L22] [v19] [L24] → (v7 < v0) ∧ (v11 < v2) ∧ (v13 < v2) ∧ (v15 < v2) ∧ (v17 < v2) ∧ (Go.Sx.L2.rFill).rel.pre [v12, v14, v16, v18] [L23] ∧
(∀ v20 : Int, ∀ L25 : List Int, (Go.Sx.L2.rFill).rel.post [v12, v14, v16, v18] [L23] [v20] [L25] → ∀ v21 : Int, v21 = v7 + (1 : Int) → (I0 [v21, (0 : Int)] [L24, L25] ∧ μ0 [v21, (0 : Int)] [L24, L25] < μ0 [v7, v8] [L22, L23])))) ∧
(((12 : Int) ≤ v7) → (I0 [v7, (1 : Int)] [L22, L23] ∧ μ0 [v7, (1 : Int)] [L22, L23] < μ0 [v7, v8] [L22, L23]))) ∧
((v0 ≤ v7) → (I0 [v7, (1 : Int)] [L22, L23] ∧ μ0 [v7, (1 : Int)] [L22, L23] < μ0 [v7, v8] [L22, L23]))))))))))) := by kernel_rfl
set_option maxHeartbeats 4000000 in
theorem userAll_holds_ssn0 : (lawSpec L2.f_messuagelaw11_UserAll [.slc L2.ks4, .slc L2.ks3, .nil]).Holds Tryz.prog L2.ro := FSpec.holdsV (cfg := withS (L2.cfgB Tryz.prog) [L2.kind_ L2.f_messuageref2_Kind, L2.check_ L2.f_messuageref2_Check, L2.lets_ L2.f_messuageref2_Lets, L2.tNew, L2.tInsert, L2.bNew, L2.bFill, L2.bLines, L2.uDo 16, L2.rNew, L2.rFind, L2.rFill, L2.rFlush, L2.rWord, L2.rKNew, L2.mNew16]) [{ f := L2.f_messuagelaw11_UserAll, reg := 9, ints := [(14, 0, 12)], lists := [(8, [], some (-9223372036854775808, 9223372036854775807)), (11, [], some (-9223372036854775808, 9223372036854775807))], join := some 0 }, { f := L2.f_messuagelaw11_UserAll, reg := 14, ints := [(15, 0, 8)], lists := [(9, [], some (-9223372036854775808, 9223372036854775807)), (13, [], some (-9223372036854775808, 9223372036854775807))], join := some 2 }, { f := L2.f_messuagelaw11_UserAll, reg := 19, ints := [(16, 0, 40)], lists := [(8, [], some (-9223372036854775808, 9223372036854775807)), (11, [], some (-9223372036854775808, 9223372036854775807)), (10, [0, 0], some (0, 18446744073709551615)), (10, [0, 1], some (0, 18446744073709551615)), (10, [0, 2], some (0, 18446744073709551615)), (10, [0, 3], some (0, 18446744073709551615)), (10, [0, 4], some (0, 18446744073709551615)), (10, [0, 5], some (0, 18446744073709551615)), (10, [0, 6], some (0, 18446744073709551615)), (10, [0, 7], some (0, 18446744073709551615)), (10, [0, 8], some (0, 18446744073709551615)), (10, [0, 9], some (0, 18446744073709551615)), (10, [0, 10], some (0, 18446744073709551615)), (10, [0, 11], some (0, 18446744073709551615)), (10, [0, 12], some (0, 18446744073709551615)), (10, [0, 13], some (0, 18446744073709551615)), (10, [0, 14], some (0, 18446744073709551615)), (10, [0, 15], some (0, 18446744073709551615)), (12, [], some (-9223372036854775808, 18446744073709551615))] }, { f := L2.f_messuagelaw11_UserAll, reg := 48, ints := [(221, 0, 8)] }] 20 200 (withS_ok cfgB_ok ⟨rKind_holds, rCheck_holds, rLets_holds, tNew_holds, tInsert_holds, bNew_holds, bFill_holds, bLines_holds, uDoM16_holds, rNew_holds, rFind_holds, rFill_holds, rFlush_holds, rWord_holds, rKNew_holds, mNew16_holds, trivial⟩) mixed (t := UserAll_ssn_t) UserAll_ssn_tree (by
  show ∀ (v0 v1 v2 v3 v4 v5 : Int) (L0 L1 : List Int), _
  intro v0 v1 v2 v3 v4 v5 L0 L1 hp hr hl
  replace hr : ((0 : Int) ≤ v0 ∧ v0 ≤ (9223372036854775807 : Int)) ∧ ((0 : Int) ≤ v1 ∧ v1 ≤ (9223372036854775807 : Int)) ∧ ((0 : Int) ≤ v2 ∧ v2 ≤ (9223372036854775807 : Int) * ((4 : Nat) : Int)) ∧ ((0 : Int) ≤ v3 ∧ v3 ≤ (9223372036854775807 : Int)) ∧ ((0 : Int) ≤ v4 ∧ v4 ≤ (9223372036854775807 : Int)) ∧ ((0 : Int) ≤ v5 ∧ v5 ≤ (9223372036854775807 : Int) * ((3 : Nat) : Int)) ∧ True := hr
  replace hp : ((True ∧ ((0 : Int) ≤ v0 ∧ v0 ≤ v1 ∧ (L0.length : Int) = v0 * ((4 : Nat) : Int) ∧ ((4 : Nat) ≠ 1 → v2 = v0 * ((4 : Nat) : Int)) ∧ ∀ j, j < L0.length → ((oneKind L2.ks4).getD (j % (oneKind L2.ks4).length) (.i .i64)).lo ≤ L0.getD j 0 ∧ L0.getD j 0 ≤ ((oneKind L2.ks4).getD (j % (oneKind L2.ks4).length) (.i .i64)).hi)) ∧ ((0 : Int) ≤ v3 ∧ v3 ≤ v4 ∧ (L1.length : Int) = v3 * ((3 : Nat) : Int) ∧ ((3 : Nat) ≠ 1 → v5 = v3 * ((3 : Nat) : Int)) ∧ ∀ j, j < L1.length → ((oneKind L2.ks3).getD (j % (oneKind L2.ks3).length) (.i .i64)).lo ≤ L1.getD j 0 ∧ L1.getD j 0 ≤ ((oneKind L2.ks3).getD (j % (oneKind L2.ks3).length) (.i .i64)).hi)) := hp
  show UserAll_ssn_t.dn ⟨_, []⟩ 6 [v5, v4, v3, v2, v1, v0] 2 [L1, L0]
  rw [UserAll_ssn_vc]
  show ((L2.yes L2.f_messuagelaw11_begun).rel.pre [] [] ∧ _)
  refine ⟨trivial, fun _ => ?_⟩
  refine ⟨trivial, fun B0 hB0 => ⟨trivial, fun T0 hT0 => ⟨trivial, fun cap m0 m1 m2 m3 m4 m5 m6 m7 m8 m9 m10 m11 m12 m13 m14 m15 hM0 => ⟨trivial, fun W0 hW0 => ⟨trivial, fun K0 hK0 => ?_⟩⟩⟩⟩⟩
  have hB0' : B0 = clearB (List.replicate 41 0) := (List.cons.inj (show [B0] = [clearB (List.replicate 41 (0 : Int))] from hB0.2)).1
  have hT0' : T0 = List.replicate 24 0 := (List.cons.inj (show [T0] = [List.replicate 24 (0 : Int)] from hT0.2)).1
  have hW0' : W0 = [-1, 0, 0, 0, -1, 0, 0, 0, -1, 0, 0, 0, -1, 0, 0, 0, -1, 0, 0, 0, -1, 0, 0, 0, -1, 0, 0, 0, -1, 0, 0, 0, 0, 0, 0, 0, 0, 0, 0, 0, 0] := (List.cons.inj (show [W0] = [[-1, 0, 0, 0, -1, 0, 0, 0, -1, 0, 0, 0, -1, 0, 0, 0, -1, 0, 0, 0, -1, 0, 0, 0, -1, 0, 0, 0, -1, 0, 0, 0, 0, 0, 0, 0, 0, 0, 0, 0, 0]] from hW0.2)).1
  have hM : [m0, m1, m2, m3, m4, m5, m6, m7, m8, m9, m10, m11, m12, m13, m14, m15] = List.replicate 16 (List.replicate 16 (0 : Int)) := hM0
  have hK : K0 = 1 :: 4 :: 16 :: List.replicate 512 (0 : Int) := (List.cons.inj (show [K0] = [1 :: 4 :: 16 :: List.replicate 512 (0 : Int)] from hK0.2)).1
  have hMR : MR [m0, m1, m2, m3, m4, m5, m6, m7, m8, m9, m10, m11, m12, m13, m14, m15] K0 := ua_mr hM hK
  clear hB0 hT0 hW0 hM0 hK0 hM hK
  refine ⟨fun xs ys => match xs, ys with | [i, g], [B, W] => 0 ≤ i ∧ TB B W ∧ FB B | _, _ => False, fun xs _ => match xs with | [i, g] => 2 * (12 - i).toNat + (if g = 0 then 1 else 0) | _ => 0, ?_, ?_⟩ <;> dsimp only
  · rw [hB0', hW0']; exact ⟨by omega, TB.start, FB.start⟩
  · intro i g B W hI
    obtain ⟨i0, tb, fb⟩ := hI
    clear hB0' hW0'
    refine ⟨fun hg P0 eP => ?_, fun hg => ?_⟩
    · refine ⟨fun xs ys => match xs, ys with | [i, g], [T, P] => 0 ≤ i ∧ TV T ∧ P = T | _, _ => False, fun xs _ => match xs with | [i, g] => 2 * (8 - i).toNat + (if g = 0 then 1 else 0) | _ => 0, ?_, ?_⟩ <;> dsimp only
      · rw [hT0', eP]; exact ⟨by omega, TV.start, rfl⟩
      · intro j q T P hJ
        obtain ⟨j0, hT, hP⟩ := hJ
        subst hP
        clear hT0' eP
        refine ⟨fun hq => ?_, fun hq => ?_⟩
        · refine ⟨fun xs ys => match xs, ys with | [i], [B, W, M0, M1, M2, M3, M4, M5, M6, M7, M8, M9, M10, M11, M12, M13, M14, M15, K] => 0 ≤ i ∧ UA B W [M0, M1, M2, M3, M4, M5, M6, M7, M8, M9, M10, M11, M12, M13, M14, M15] K | _, _ => False, fun xs _ => match xs with | [i] => ((0 : Int) - i).toNat | _ => 0, ?_, ?_⟩ <;> dsimp only
          · exact ⟨by omega, tb, fb, hMR⟩
          · clear tb fb hMR
            intro n B W M0 M1 M2 M3 M4 M5 M6 M7 M8 M9 M10 M11 M12 M13 M14 M15 K hI2
            obtain ⟨n0, u⟩ := hI2
            exact trivial
        · have hv : v5 = v3 * 3 := by have := hp.2.2.2.2.1 (by decide); omega
          clear hp hr hl
          refine ⟨fun c => ⟨fun c2 => ⟨c, fun a ea => ⟨by omega, fun f ef b eb => ⟨by omega, fun s es d ed => ⟨by omega, fun r er => ⟨trivial, fun x T' hI => ?_⟩⟩⟩⟩⟩, fun _ => ⟨⟨j0, hT, rfl⟩, by (repeat' split) <;> omega⟩⟩, fun _ => ⟨⟨j0, hT, rfl⟩, by (repeat' split) <;> omega⟩⟩
          have h1 : x = insE P j f s r := (List.cons.inj (show [x] = [insE P j f s r] from hI.1)).1
          have h2 : T' = insL P j f s r := (List.cons.inj (show [T'] = [insL P j f s r] from hI.2)).1
          subst h1 h2
          refine ⟨fun z => ⟨c, by omega, by omega, by omega, fun P1 g1 P2 g2 P3 g3 y ey => ⟨⟨by omega, hT.ins _ _ _ _, ?_⟩, by (repeat' split) <;> omega⟩⟩, fun z y ey => ⟨⟨by omega, hT.ins _ _ _ _, ?_⟩, by (repeat' split) <;> omega⟩⟩
          · unfold insL; rw [if_pos z, g3, g2, g1, eb, ed, ea]; rfl
          · unfold insL; rw [if_neg z]
    · have hv : v2 = v0 * 4 := by have := hp.1.2.2.2.2.1 (by decide); omega
      clear hp hr hl hT0'
      refine ⟨fun c => ⟨fun c2 => ⟨c, fun a ea => ⟨by omega, fun e ee b eb => ⟨by omega, fun p ep d ed => ⟨by omega, fun f ef h eh => ⟨by omega, fun r er => ⟨trivial, fun x B' hb => ⟨c, by omega, by omega, by omega, by omega, trivial, fun x2 W' hw y ey => ?_⟩⟩⟩⟩⟩⟩⟩, fun _ => ⟨⟨i0, tb, fb⟩, by (repeat' split) <;> omega⟩⟩, fun _ => ⟨⟨i0, tb, fb⟩, by (repeat' split) <;> omega⟩⟩
      have h1 : B' = fillB B e p f r := (List.cons.inj (show [B'] = [fillB B e p f r] from hb.2)).1
      have h2 : W' = fillR W e p f r := (List.cons.inj (show [W'] = [fillR W e p f r] from hw.2)).1
      subst h1 h2
      exact ⟨⟨by omega, tb.fill _ _ _ _, fb.fill tb.w _ _ _ _⟩, by (repeat' split) <;> omega⟩)
theorem userAll_holds_ssn : ((lawSpec L2.f_messuagelaw11_UserAll [.slc L2.ks4, .slc L2.ks3, .nil]).withPre fun _ => True).Holds Tryz.prog L2.ro := holds_withPre _ userAll_holds_ssn0
end Go.Proofs.YtbpilohnhhbbpaaGreatDoor
