/- The statement messuagelaw11.PlainRemap of the seat: for every input the law returns true; the condition: errors.errorType is as the program lays it. -/
import Derived.Test.YtbeeilndeglnhaaGreatDoorL2B
import Derived.Test.YtbeeilndeglnhaaGreatDoorSxM7
import Derived.Test.YtbeeilndeglnhaaGreatDoorL2Pb
import Derived.Test.YtbeeilndeglnhaaGreatDoorL2Zm0
import Derived.Test.YtbeeilndeglnhaaGreatDoorL2Zm1
import Derived.Test.YtbeeilndeglnhaaGreatDoorL2Zm2
import Derived.Test.YtbeeilndeglnhaaGreatDoorL2Zm3
set_option linter.unusedVariables false
set_option linter.unusedSimpArgs false
open Go Go.Sx
namespace Go.Proofs.YtbeeilndeglnhaaGreatDoor
open Go.ChangeShapes Go.WideShapes Go.RowKit
set_option maxRecDepth 100000

noncomputable def PlainRemap_t : Tree := .call 11 (Go.Sx.L2.yes Go.Sx.L2.f_messuagelaw11_begun).rel [] [] 0 0 (.call 38 (Go.Sx.L2.pNew2).rel [] [] 2 0 (.call 14 (Go.Sx.L2.zM0).rel [.v 4, .v 5, .c (0), .c (0)] [] 0 0 (.call 14 (Go.Sx.L2.zM0).rel [.v 4, .v 5, .c (0), .c (0)] [] 0 0 (.call 14 (Go.Sx.L2.zM0).rel [.v 4, .v 5, .c (0), .c (0)] [] 0 0 (.call 14 (Go.Sx.L2.zM0).rel [.v 4, .v 5, .v 2, .c (0)] [] 0 0 (.call 14 (Go.Sx.L2.zM0).rel [.v 4, .v 5, .v 2, .c (0)] [] 0 0 (.call 14 (Go.Sx.L2.zM0).rel [.v 4, .v 5, .v 2, .c (0)] [] 0 0 (.call 14 (Go.Sx.L2.zM0).rel [.v 4, .v 5, .v 2, .v 3] [] 0 0 (.call 14 (Go.Sx.L2.zM0).rel [.v 4, .v 5, .v 2, .v 3] [] 0 0 (.loop [.c (0)] [] (.letI (.cmp .lss (.v 6) (.v 0)) (.ite (.v 7) (.letI (.cmp .lss (.v 6) (.c 20)) (.ite (.v 8) (.need .lss (.v 6) (.v 0) (.need .lss (.v 6) (.v 0) (.letI (.get 0 (.v 6)) (.letI (.bit .and .i64 (.v 9) (.c 1)) (.letI (.cmp .eql (.v 10) (.c 0)) (.ite (.v 11) (.call 14 (Go.Sx.L2.zM0).rel [.v 4, .v 5, .v 2, .v 3] [] 0 0 (.call 14 (Go.Sx.L2.zM0).rel [.v 4, .v 5, .v 2, .v 3] [] 0 0 (.call 14 (Go.Sx.L2.zM0).rel [.v 4, .v 5, .v 2, .v 3] [] 0 0 (.call 14 (Go.Sx.L2.zM0).rel [.v 4, .v 5, .v 2, .v 3] [] 0 0 (.letI (.add (.v 6) (.c 1)) (.again [.v 12] [])))))) (.call 14 (Go.Sx.L2.zM0).rel [.v 4, .v 5, .v 2, .v 3] [] 0 0 (.call 14 (Go.Sx.L2.zM0).rel [.v 4, .v 5, .v 2, .v 3] [] 0 0 (.call 14 (Go.Sx.L2.zM0).rel [.v 4, .v 5, .v 2, .v 3] [] 0 0 (.call 14 (Go.Sx.L2.zM0).rel [.v 4, .v 5, .v 2, .v 3] [] 0 0 (.letI (.add (.v 6) (.c 1)) (.again [.v 12] [])))))))))))) (.exit (.done [] [])))) (.exit (.done [] []))))))))))))))
theorem PlainRemap_tree : (lawSpec L2.f_messuagelaw11_PlainRemap [.slc [.i .i64], .one (.i .u64), .one (.i .u64)]).exe Tryz.prog (withC (withA (withS (L2.cfgB Tryz.prog) [L2.pNew2]) L2.f_plain_Kernel_Do [L2.zM0, L2.zM1, L2.zM2, L2.zM3, L2.zM4, L2.zM5, L2.zM6, L2.zM7, L2.zL00, L2.zL01, L2.zL02, L2.zL03, L2.zL10, L2.zL11, L2.zL12, L2.zL13])) [{ f := L2.f_messuagelaw11_PlainRemap, reg := 12, ints := [(11, 0, 20)] }] 20 200 = PlainRemap_t := by kernel_rfl
theorem PlainRemap_vc (Q : List Int → List (List Int) → Prop) (v0 v1 v2 v3 : Int) (L0 : List Int) : PlainRemap_t.dn ⟨Q, []⟩ 4 [v3, v2, v1, v0] 1 [L0] = ((Go.Sx.L2.yes Go.Sx.L2.f_messuagelaw11_begun).rel.pre [] [] ∧
((Go.Sx.L2.yes Go.Sx.L2.f_messuagelaw11_begun).rel.post [] [] [] [] → (Go.Sx.L2.pNew2).rel.pre [] [] ∧
(∀ v4 : Int, ∀ v5 : Int, (Go.Sx.L2.pNew2).rel.post [] [] [v4, v5] [] → (Go.Sx.L2.zM0).rel.pre [v4, v5, (0 : Int), (0 : Int)] [] ∧
((Go.Sx.L2.zM0).rel.post [v4, v5, (0 : Int), (0 : Int)] [] [] [] → (Go.Sx.L2.zM0).rel.pre [v4, v5, (0 : Int), (0 : Int)] [] ∧
((Go.Sx.L2.zM0).rel.post [v4, v5, (0 : Int), (0 : Int)] [] [] [] → (Go.Sx.L2.zM0).rel.pre [v4, v5, (0 : Int), (0 : Int)] [] ∧
((Go.Sx.L2.zM0).rel.post [v4, v5, (0 : Int), (0 : Int)] [] [] [] → (Go.Sx.L2.zM0).rel.pre [v4, v5, v2, (0 : Int)] [] ∧
((Go.Sx.L2.zM0).rel.post [v4, v5, v2, (0 : Int)] [] [] [] → (Go.Sx.L2.zM0).rel.pre [v4, v5, v2, (0 : Int)] [] ∧
((Go.Sx.L2.zM0).rel.post [v4, v5, v2, (0 : Int)] [] [] [] → (Go.Sx.L2.zM0).rel.pre [v4, v5, v2, (0 : Int)] [] ∧
((Go.Sx.L2.zM0).rel.post [v4, v5, v2, (0 : Int)] [] [] [] → (Go.Sx.L2.zM0).rel.pre [v4, v5, v2, v3] [] ∧
((Go.Sx.L2.zM0).rel.post [v4, v5, v2, v3] [] [] [] → (Go.Sx.L2.zM0).rel.pre [v4, v5, v2, v3] [] ∧
((Go.Sx.L2.zM0).rel.post [v4, v5, v2, v3] [] [] [] → ∃ (I0 : List Int → List (List Int) → Prop) (μ0 : List Int → List (List Int) → Nat), I0 [(0 : Int)] [] ∧
(∀ v6 : Int, I0 [v6] [] →
 ((v6 < v0) → ((v6 < (20 : Int)) → (v6 < v0) ∧ (v6 < v0) ∧ ∀ v9 : Int, v9 = (L0).getD (v6).toNat 0 → ∀ v10 : Int, v10 = bitDen .and .i64 v9 (1 : Int) → ((v10 = (0 : Int)) → (Go.Sx.L2.zM0).rel.pre [v4, v5, v2, v3] [] ∧
((Go.Sx.L2.zM0).rel.post [v4, v5, v2, v3] [] [] [] → (Go.Sx.L2.zM0).rel.pre [v4, v5, v2, v3] [] ∧
((Go.Sx.L2.zM0).rel.post [v4, v5, v2, v3] [] [] [] → (Go.Sx.L2.zM0).rel.pre [v4, v5, v2, v3] [] ∧
((Go.Sx.L2.zM0).rel.post [v4, v5, v2, v3] [] [] [] → (Go.Sx.L2.zM0).rel.pre [v4, v5, v2, v3] [] ∧
((Go.Sx.L2.zM0).rel.post [v4, v5, v2, v3] [] [] [] → ∀ v12 : Int, v12 = v6 + (1 : Int) → (I0 [v12] [] ∧ μ0 [v12] [] < μ0 [v6] [])))))) ∧
((v10 ≠ (0 : Int)) → (Go.Sx.L2.zM0).rel.pre [v4, v5, v2, v3] [] ∧
((Go.Sx.L2.zM0).rel.post [v4, v5, v2, v3] [] [] [] → (Go.Sx.L2.zM0).rel.pre [v4, v5, v2, v3] [] ∧
((Go.Sx.L2.zM0).rel.post [v4, v5, v2, v3] [] [] [] → (Go.Sx.L2.zM0).rel.pre [v4, v5, v2, v3] [] ∧
((Go.Sx.L2.zM0).rel.post [v4, v5, v2, v3] [] [] [] → (Go.Sx.L2.zM0).rel.pre [v4, v5, v2, v3] [] ∧
((Go.Sx.L2.zM0).rel.post [v4, v5, v2, v3] [] [] [] → ∀ v12 : Int, v12 = v6 + (1 : Int) → (I0 [v12] [] ∧ μ0 [v12] [] < μ0 [v6] []))))))) ∧
(((20 : Int) ≤ v6) → Q [] [])) ∧
((v0 ≤ v6) → Q [] []))))))))))))) := by kernel_rfl
set_option maxHeartbeats 4000000 in
theorem plainRemap_holds0 : (lawSpec L2.f_messuagelaw11_PlainRemap [.slc [.i .i64], .one (.i .u64), .one (.i .u64)]).Holds Tryz.prog L2.ro := FSpec.holdsV (cfg := withC (withA (withS (L2.cfgB Tryz.prog) [L2.pNew2]) L2.f_plain_Kernel_Do [L2.zM0, L2.zM1, L2.zM2, L2.zM3, L2.zM4, L2.zM5, L2.zM6, L2.zM7, L2.zL00, L2.zL01, L2.zL02, L2.zL03, L2.zL10, L2.zL11, L2.zL12, L2.zL13])) [{ f := L2.f_messuagelaw11_PlainRemap, reg := 12, ints := [(11, 0, 20)] }] 20 200 (withC_ok (withA_ok (withS_ok cfgB_ok ⟨pNew2_holds, trivial⟩) (fun s hs => by
  simp only [List.mem_cons, List.not_mem_nil, or_false] at hs
  rcases hs with rfl | rfl | rfl | rfl | rfl | rfl | rfl | rfl | rfl | rfl | rfl | rfl | rfl | rfl | rfl | rfl <;> rfl) ⟨zM0_holds, zM1_holds, zM2_holds, zM3_holds, zM4_holds, zM5_holds, zM6_holds, zM7_holds, zL00_holds, zL01_holds, zL02_holds, zL03_holds, zL10_holds, zL11_holds, zL12_holds, zL13_holds, trivial⟩)) mixed (t := PlainRemap_t) PlainRemap_tree (by
  show ∀ (v0 v1 v2 v3 : Int) (L0 : List Int), _
  intro v0 v1 v2 v3 L0 hp hr hl
  replace hr : ((0 : Int) ≤ v0 ∧ v0 ≤ (9223372036854775807 : Int)) ∧ ((0 : Int) ≤ v1 ∧ v1 ≤ (9223372036854775807 : Int)) ∧ ((0 : Int) ≤ v2 ∧ v2 ≤ (18446744073709551615 : Int)) ∧ ((0 : Int) ≤ v3 ∧ v3 ≤ (18446744073709551615 : Int)) ∧ True := hr
  replace hp : (True ∧ ((0 : Int) ≤ v0 ∧ v0 ≤ v1 ∧ (L0.length : Int) = v0 * ((1 : Nat) : Int) ∧ ((1 : Nat) ≠ 1 → [v0, v1, v2, v3].getD 2 0 = v0 * ((1 : Nat) : Int)) ∧ ∀ j, j < L0.length → ((oneKind [.i .i64]).getD (j % (oneKind [.i .i64]).length) (.i .i64)).lo ≤ L0.getD j 0 ∧ L0.getD j 0 ≤ ((oneKind [.i .i64]).getD (j % (oneKind [.i .i64]).length) (.i .i64)).hi)) := hp
  show PlainRemap_t.dn ⟨_, []⟩ 4 [v3, v2, v1, v0] 1 [L0]
  rw [PlainRemap_vc]
  show ((L2.yes L2.f_messuagelaw11_begun).rel.pre [] [] ∧ _)
  refine ⟨trivial, fun _ => ?_⟩
  refine ⟨trivial, fun v4 v5 _ => ?_⟩
  iterate 8 refine ⟨trivial, fun _ => ?_⟩
  refine ⟨fun xs ys => match xs, ys with | [i], [] => 0 ≤ i | _, _ => False, fun xs _ => match xs with | [i] => (20 - i).toNat | _ => 0, ?_, ?_⟩ <;> dsimp only
  · omega
  · intro i hI
    refine ⟨fun c1 => ⟨fun c2 => ⟨c1, c1, fun x ex y ey => ⟨fun _ => ?_, fun _ => ?_⟩⟩, fun c2 => trivial⟩, fun c1 => trivial⟩
    · iterate 4 refine ⟨trivial, fun _ => ?_⟩
      intro z ez; exact ⟨by omega, by omega⟩
    · iterate 4 refine ⟨trivial, fun _ => ?_⟩
      intro z ez; exact ⟨by omega, by omega⟩)
theorem plainRemap_holds : ((lawSpec L2.f_messuagelaw11_PlainRemap [.slc [.i .i64], .one (.i .u64), .one (.i .u64)]).withPre fun _ => True).Holds Tryz.prog L2.ro := holds_withPre _ plainRemap_holds0

noncomputable def PlainRemap_n_t : Tree := .call 11 (Go.Sx.L2.yes Go.Sx.L2.f_messuagelaw11_begun).rel [] [] 0 0 (.call 38 (Go.Sx.L2.pNew2).rel [] [] 2 0 (.call 14 (Go.Sx.L2.zM0).rel [.v 2, .v 3, .c (0), .c (0)] [] 0 0 (.call 14 (Go.Sx.L2.zM0).rel [.v 2, .v 3, .c (0), .c (0)] [] 0 0 (.call 14 (Go.Sx.L2.zM0).rel [.v 2, .v 3, .c (0), .c (0)] [] 0 0 (.call 14 (Go.Sx.L2.zM0).rel [.v 2, .v 3, .v 0, .c (0)] [] 0 0 (.call 14 (Go.Sx.L2.zM0).rel [.v 2, .v 3, .v 0, .c (0)] [] 0 0 (.call 14 (Go.Sx.L2.zM0).rel [.v 2, .v 3, .v 0, .c (0)] [] 0 0 (.call 14 (Go.Sx.L2.zM0).rel [.v 2, .v 3, .v 0, .v 1] [] 0 0 (.call 14 (Go.Sx.L2.zM0).rel [.v 2, .v 3, .v 0, .v 1] [] 0 0 (.loop [.c (0)] [] (.exit (.done [] []))))))))))))
theorem PlainRemap_n_tree : (lawSpec L2.f_messuagelaw11_PlainRemap [.nil, .one (.i .u64), .one (.i .u64)]).exe Tryz.prog (withC (withA (withS (L2.cfgB Tryz.prog) [L2.pNew2]) L2.f_plain_Kernel_Do [L2.zM0, L2.zM1, L2.zM2, L2.zM3, L2.zM4, L2.zM5, L2.zM6, L2.zM7, L2.zL00, L2.zL01, L2.zL02, L2.zL03, L2.zL10, L2.zL11, L2.zL12, L2.zL13])) [{ f := L2.f_messuagelaw11_PlainRemap, reg := 12, ints := [(11, 0, 20)] }] 20 200 = PlainRemap_n_t := by kernel_rfl
theorem PlainRemap_n_vc (Q : List Int → List (List Int) → Prop) (v0 v1 : Int) : PlainRemap_n_t.dn ⟨Q, []⟩ 2 [v1, v0] 0 [] = ((Go.Sx.L2.yes Go.Sx.L2.f_messuagelaw11_begun).rel.pre [] [] ∧
((Go.Sx.L2.yes Go.Sx.L2.f_messuagelaw11_begun).rel.post [] [] [] [] → (Go.Sx.L2.pNew2).rel.pre [] [] ∧
(∀ v2 : Int, ∀ v3 : Int, (Go.Sx.L2.pNew2).rel.post [] [] [v2, v3] [] → (Go.Sx.L2.zM0).rel.pre [v2, v3, (0 : Int), (0 : Int)] [] ∧
((Go.Sx.L2.zM0).rel.post [v2, v3, (0 : Int), (0 : Int)] [] [] [] → (Go.Sx.L2.zM0).rel.pre [v2, v3, (0 : Int), (0 : Int)] [] ∧
((Go.Sx.L2.zM0).rel.post [v2, v3, (0 : Int), (0 : Int)] [] [] [] → (Go.Sx.L2.zM0).rel.pre [v2, v3, (0 : Int), (0 : Int)] [] ∧
((Go.Sx.L2.zM0).rel.post [v2, v3, (0 : Int), (0 : Int)] [] [] [] → (Go.Sx.L2.zM0).rel.pre [v2, v3, v0, (0 : Int)] [] ∧
((Go.Sx.L2.zM0).rel.post [v2, v3, v0, (0 : Int)] [] [] [] → (Go.Sx.L2.zM0).rel.pre [v2, v3, v0, (0 : Int)] [] ∧
((Go.Sx.L2.zM0).rel.post [v2, v3, v0, (0 : Int)] [] [] [] → (Go.Sx.L2.zM0).rel.pre [v2, v3, v0, (0 : Int)] [] ∧
((Go.Sx.L2.zM0).rel.post [v2, v3, v0, (0 : Int)] [] [] [] → (Go.Sx.L2.zM0).rel.pre [v2, v3, v0, v1] [] ∧
((Go.Sx.L2.zM0).rel.post [v2, v3, v0, v1] [] [] [] → (Go.Sx.L2.zM0).rel.pre [v2, v3, v0, v1] [] ∧
((Go.Sx.L2.zM0).rel.post [v2, v3, v0, v1] [] [] [] → ∃ (I0 : List Int → List (List Int) → Prop) (μ0 : List Int → List (List Int) → Nat), I0 [(0 : Int)] [] ∧
(∀ v4 : Int, I0 [v4] [] →
 Q [] [])))))))))))) := by kernel_rfl
set_option maxHeartbeats 4000000 in
theorem plainRemap_holds_n0 : (lawSpec L2.f_messuagelaw11_PlainRemap [.nil, .one (.i .u64), .one (.i .u64)]).Holds Tryz.prog L2.ro := FSpec.holdsV (cfg := withC (withA (withS (L2.cfgB Tryz.prog) [L2.pNew2]) L2.f_plain_Kernel_Do [L2.zM0, L2.zM1, L2.zM2, L2.zM3, L2.zM4, L2.zM5, L2.zM6, L2.zM7, L2.zL00, L2.zL01, L2.zL02, L2.zL03, L2.zL10, L2.zL11, L2.zL12, L2.zL13])) [{ f := L2.f_messuagelaw11_PlainRemap, reg := 12, ints := [(11, 0, 20)] }] 20 200 (withC_ok (withA_ok (withS_ok cfgB_ok ⟨pNew2_holds, trivial⟩) (fun s hs => by
  simp only [List.mem_cons, List.not_mem_nil, or_false] at hs
  rcases hs with rfl | rfl | rfl | rfl | rfl | rfl | rfl | rfl | rfl | rfl | rfl | rfl | rfl | rfl | rfl | rfl <;> rfl) ⟨zM0_holds, zM1_holds, zM2_holds, zM3_holds, zM4_holds, zM5_holds, zM6_holds, zM7_holds, zL00_holds, zL01_holds, zL02_holds, zL03_holds, zL10_holds, zL11_holds, zL12_holds, zL13_holds, trivial⟩)) mixed (t := PlainRemap_n_t) PlainRemap_n_tree (by
  show ∀ (v0 v1 : Int) , _
  intro v0 v1  hp hr hl
  replace hr : ((0 : Int) ≤ v0 ∧ v0 ≤ (18446744073709551615 : Int)) ∧ ((0 : Int) ≤ v1 ∧ v1 ≤ (18446744073709551615 : Int)) ∧ True := hr
  replace hp : True := hp
  show PlainRemap_n_t.dn ⟨_, []⟩ 2 [v1, v0] 0 []
  rw [PlainRemap_n_vc]
  show ((L2.yes L2.f_messuagelaw11_begun).rel.pre [] [] ∧ _)
  refine ⟨trivial, fun _ => ?_⟩
  refine ⟨trivial, fun v4 v5 _ => ?_⟩
  iterate 8 refine ⟨trivial, fun _ => ?_⟩
  refine ⟨fun xs ys => match xs, ys with | [i], [] => 0 ≤ i | _, _ => False, fun xs _ => match xs with | [i] => (20 - i).toNat | _ => 0, ?_, ?_⟩ <;> dsimp only
  · omega
  · intro i hI
    trivial)
theorem plainRemap_holds_n : ((lawSpec L2.f_messuagelaw11_PlainRemap [.nil, .one (.i .u64), .one (.i .u64)]).withPre fun _ => True).Holds Tryz.prog L2.ro := holds_withPre _ plainRemap_holds_n0

theorem plainRemap_calls {H : Type} {enc : TypeId × Value → H} {W : World} {base : Nat} {args : Array Value} {ds : List (DataW H)} {p : List MemPlace} (hval : ∀ (j : Nat) t v, Tryz.f6.params[j]? = some t → args[j]? = some v → Value.okWide Tryz.prog W .any base t v)
    (hA : DataW.TrodAll enc Tryz.prog W 0 (fun _ => true) true Tryz.f6.params.toList args.toList ds p) (hL : laidMetH Tryz.prog laid1 W) : Calls Tryz.prog 6 args W fun e W' => e = .returned (.bool true) ∧ Go.Sx.Frame ⟨W, [], L2.ro⟩ W' := by
  rw [Tryz.params6] at hA hval
  obtain ⟨v0, v1, v2, d0, d1, d2, p0, p1, p2, rfl, rfl, rfl, h0, h1, h2⟩ := trodAll_three hA
  obtain ⟨n1, q1⟩ := par_int (base := 0) und27 (hval 1 27 v1 rfl rfl) h1
  obtain ⟨n2, q2⟩ := par_int (base := 0) und27 (hval 2 27 v2 rfl rfl) h2
  rcases par_flats (base := 0) (f := 9) und22 flat3 cells3 (by decide) (hval 0 22 v0 rfl rfl) h0 with q0 | ⟨e0, q0⟩
  · exact law_calls (plainRemap_holds_n) Tryz.func6 (show Tryz.f6.body = some _ from rfl) (by kernel_rfl) (.cons q0 (.cons q1 (.cons q2 .none))) trivial (ro_of_laid hL)
  · exact law_calls (plainRemap_holds) Tryz.func6 (show Tryz.f6.body = some _ from rfl) (by kernel_rfl) (.cons q0 (.cons q1 (.cons q2 .none))) trivial (ro_of_laid hL)
set_option maxHeartbeats 1000000 in
theorem plainRemap_lifted (os : Os) (started : os.Started) (H : Type) (enc : TypeId × Value → H) :
    ReturnsInHanded {} Tryz.checked os 6 .any (fun w args => (Rows.plainRemapSpec.pre enc Tryz.prog Tryz.f6 [] false w args ∧ laidMetH Tryz.prog laid1 w) ∧ sizedMet enc Tryz.prog Tryz.f6 (OpenSpec.ofChange Rows.plainRemapSpec) false w args)
      (Rows.plainRemapSpec.post enc Tryz.prog Tryz.f6 false true false false) := by
  refine returnsInHanded_of_change_and (C := Tryz.checked) (X := fun w _ => laidMetH Tryz.prog laid1 w) (fun _ _ _ hh h => h.of_heap hh) Tryz.own started (by kernel_rfl) Tryz.func6
    (ChangeSpec.witness_at (enc := enc) (C := Tryz.checked) (os := os) (X := fun w _ => laidMetH Tryz.prog laid1 w) false (laidWorld os) #[.slice none 0 0, .int .u64 0, .int .u64 0] 8 rfl (by kernel_rfl) (by kernel_rfl) (by kernel_rfl) (by kernel_rfl) (by kernel_rfl) (laidWorld_met os _)) ?_
  intro W base args ds gs before hval0 hW _ _ hL _
  have hval : ∀ (j : Nat) t v, Tryz.f6.params[j]? = some t → args[j]? = some v → Value.okWide Tryz.prog W .any base t v := hval0
  have hW' := hW
  obtain ⟨p, q, hA0, hV0, rfl, hfz, hnd⟩ := hW
  have hcall := plainRemap_calls (enc := enc) hval hA0 hL
  refine Calls.mono hcall ?_
  rintro e W' ⟨rfl, hfr⟩
  exact ⟨_, rfl, post_kept Tryz.laidOut (by kernel_rfl) rfl rfl und4 hW' hfr (by
    have hg : gs = [] := by cases gs with | nil => rfl | cons g r => exact absurd hV0 (by intro h; cases h)
    subst hg
    have hA1 : DataW.TrodAll enc Tryz.prog W 0 (fun _ => true) true Tryz.f6.params.toList args.toList ds p := hA0
    rw [Tryz.params6] at hA1
    obtain ⟨v0, v1, v2, d0, d1, d2, p0, p1, p2, ea, rfl, ec, h0, h1, h2⟩ := trodAll_three hA1
    rfl)⟩

theorem plainRemap_row : Rows.PlainRemapSaid :=
  OpenClaim.holds_of_wide 6 Tryz.f6 rfl rfl rfl rfl rfl rfl rfl ⟨rfl, rfl, rfl, rfl, rfl⟩ rfl rfl rfl rfl rfl (by kernel_rfl) Tryz.func6 (restFacts.2 _ _ _ _ _ Tryz.mayEnter Tryz.liftsFinal Tryz.make (by kernel_rfl))
    (of_decide_eq_true (by kernel_rfl)) (by unfold Func.isWrapper; rw [if_neg (of_decide_eq_false (by kernel_rfl))]; exact ⟨rfl, rfl⟩)
    (fun os started H enc _ => plainRemap_lifted os started H enc)
theorem plainRemap_card : Rows.PlainRemapCardSaid :=
  Claim7.holds_tied_plain_at .later [] [.handle] true (true, "03e61672702d19706c8d68169ee10bb2a69f43bc4acf47496bc14f440cc30522") true
    plainRemap_row (fun _ h => by cases h) (by kernel_rfl) (fun _ h => by cases h) plainRemap_row_tie rfl ⟨rfl, rfl⟩ Tryz.mainIs rfl
    (fun f fn hf hfn => by
      obtain rfl : f = 6 := Option.some.inj ((show Tryz.prog.funcNamed "messuage/messuagelaw11.PlainRemap" = some 6 by kernel_rfl).symm.trans hf) |>.symm
      obtain rfl : fn = Tryz.f6 := (Option.some.inj (Tryz.func6.symm.trans hfn)).symm
      exact ⟨by kernel_rfl, fun j t ht => by
        rw [Tryz.params6] at ht
        rcases j with _ | _ | _ | j
        · obtain rfl : 22 = t := by simpa using ht
          exact (show Tryz.prog.wantsStandIn 22 = false by kernel_rfl)
        · obtain rfl : 27 = t := by simpa using ht
          exact (show Tryz.prog.wantsStandIn 27 = false by kernel_rfl)
        · obtain rfl : 27 = t := by simpa using ht
          exact (show Tryz.prog.wantsStandIn 27 = false by kernel_rfl)
        · simp at ht⟩)
    (by kernel_rfl)
#print axioms plainRemap_card
end Go.Proofs.YtbeeilndeglnhaaGreatDoor
