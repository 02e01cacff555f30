/- The statement messuagelaw2.MemOwn of the seat: for every input the law returns true; the condition: errors.errorType is as the program lays it. -/
import Derived.Test.YtbpilohnhhbbpabGreatDoorL2B
import Derived.Test.YtbpilohnhhbbpabGreatDoorSxM7
import Derived.Test.YtbpilohnhhbbpabGreatDoorPuM
import Derived.Test.YtbpilohnhhbbpabGreatDoorL2Mo1
import Derived.Test.YtbpilohnhhbbpabGreatDoorL2Mo2
import Derived.Test.YtbpilohnhhbbpabGreatDoorL2Mo3
set_option linter.unusedVariables false
set_option linter.constructorNameAsVariable false
set_option linter.unusedSimpArgs false
open Go Go.Sx
namespace Go.Proofs.YtbpilohnhhbbpabGreatDoor
open Go.ChangeShapes Go.WideShapes Go.RowKit
set_option maxRecDepth 100000

noncomputable def MemOwn_t : Tree := .call 8 (Go.Sx.L2.yes Go.Sx.L2.f_messuagelaw2_begun).rel [] [] 0 0 (.letI (.rem (.v 0) (.c 16)) (.letI (.add (.v 3) (.c 16)) (.letI (.rem (.v 4) (.c 16)) (.letI (.rem (.v 1) (.c 16)) (.letI (.add (.v 6) (.c 16)) (.letI (.rem (.v 7) (.c 16)) (.any (.c 1) (.c 9223372036854775807) (.any (.c 2) (.c 9223372036854775807) (.any (.c 3) (.c 9223372036854775807) (.any (.c 4) (.c 9223372036854775807) (.any (.c 5) (.c 9223372036854775807) (.any (.c 6) (.c 9223372036854775807) (.any (.c 7) (.c 9223372036854775807) (.any (.c 8) (.c 9223372036854775807) (.any (.c 9) (.c 9223372036854775807) (.any (.c 10) (.c 9223372036854775807) (.any (.c 11) (.c 9223372036854775807) (.any (.c 12) (.c 9223372036854775807) (.any (.c 13) (.c 9223372036854775807) (.any (.c 14) (.c 9223372036854775807) (.any (.c 15) (.c 9223372036854775807) (.any (.c 16) (.c 9223372036854775807) (.letL (.lit [.c (0), .c (0), .c (0), .c (0), .c (0), .c (0), .c (0), .c (0), .c (0), .c (0), .c (0), .c (0), .c (0), .c (0), .c (0), .c (0)]) (.letL (.lit [.c (0), .c (0), .c (0), .c (0), .c (0), .c (0), .c (0), .c (0), .c (0), .c (0), .c (0), .c (0), .c (0), .c (0), .c (0), .c (0)]) (.letL (.lit [.c (0), .c (0), .c (0), .c (0), .c (0), .c (0), .c (0), .c (0), .c (0), .c (0), .c (0), .c (0), .c (0), .c (0), .c (0), .c (0)]) (.letL (.lit [.c (0), .c (0), .c (0), .c (0), .c (0), .c (0), .c (0), .c (0), .c (0), .c (0), .c (0), .c (0), .c (0), .c (0), .c (0), .c (0)]) (.letL (.lit [.c (0), .c (0), .c (0), .c (0), .c (0), .c (0), .c (0), .c (0), .c (0), .c (0), .c (0), .c (0), .c (0), .c (0), .c (0), .c (0)]) (.letL (.lit [.c (0), .c (0), .c (0), .c (0), .c (0), .c (0), .c (0), .c (0), .c (0), .c (0), .c (0), .c (0), .c (0), .c (0), .c (0), .c (0)]) (.letL (.lit [.c (0), .c (0), .c (0), .c (0), .c (0), .c (0), .c (0), .c (0), .c (0), .c (0), .c (0), .c (0), .c (0), .c (0), .c (0), .c (0)]) (.letL (.lit [.c (0), .c (0), .c (0), .c (0), .c (0), .c (0), .c (0), .c (0), .c (0), .c (0), .c (0), .c (0), .c (0), .c (0), .c (0), .c (0)]) (.letL (.lit [.c (0), .c (0), .c (0), .c (0), .c (0), .c (0), .c (0), .c (0), .c (0), .c (0), .c (0), .c (0), .c (0), .c (0), .c (0), .c (0)]) (.letL (.lit [.c (0), .c (0), .c (0), .c (0), .c (0), .c (0), .c (0), .c (0), .c (0), .c (0), .c (0), .c (0), .c (0), .c (0), .c (0), .c (0)]) (.letL (.lit [.c (0), .c (0), .c (0), .c (0), .c (0), .c (0), .c (0), .c (0), .c (0), .c (0), .c (0), .c (0), .c (0), .c (0), .c (0), .c (0)]) (.letL (.lit [.c (0), .c (0), .c (0), .c (0), .c (0), .c (0), .c (0), .c (0), .c (0), .c (0), .c (0), .c (0), .c (0), .c (0), .c (0), .c (0)]) (.letL (.lit [.c (0), .c (0), .c (0), .c (0), .c (0), .c (0), .c (0), .c (0), .c (0), .c (0), .c (0), .c (0), .c (0), .c (0), .c (0), .c (0)]) (.letL (.lit [.c (0), .c (0), .c (0), .c (0), .c (0), .c (0), .c (0), .c (0), .c (0), .c (0), .c (0), .c (0), .c (0), .c (0), .c (0), .c (0)]) (.letL (.lit [.c (0), .c (0), .c (0), .c (0), .c (0), .c (0), .c (0), .c (0), .c (0), .c (0), .c (0), .c (0), .c (0), .c (0), .c (0), .c (0)]) (.letL (.lit [.c (0), .c (0), .c (0), .c (0), .c (0), .c (0), .c (0), .c (0), .c (0), .c (0), .c (0), .c (0), .c (0), .c (0), .c (0), .c (0)]) (.call 10 (Go.Sx.L2.mSt).rel [.v 24, .v 5, .v 8, .v 2] [0, 1, 2, 3, 4, 5, 6, 7, 8, 9, 10, 11, 12, 13, 14, 15] 0 16 (.loop [.c (0)] [] (.letI (.cmp .lss (.v 25) (.c 16)) (.ite (.v 26) (.call 11 (Go.Sx.L2.mFr).rel [.v 24, .v 25] [16, 17, 18, 19, 20, 21, 22, 23, 24, 25, 26, 27, 28, 29, 30, 31] 1 1 (.loop [.c (0)] [] (.letI (.cmp .lss (.v 28) (.c 16)) (.ite (.v 29) (.letI (.cmp .eql (.v 5) (.v 25)) (.ite (.v 30) (.letI (.cmp .eql (.v 8) (.v 28)) (.ite (.v 31) (.letI (.get 32 (.v 28)) (.letI (.cmp .neq (.v 2) (.v 32)) (.ite (.v 33) (.exit (.exit (.fail 180))) (.letI (.add (.v 28) (.c 1)) (.again [.v 34] []))))) (.letI (.get 32 (.v 28)) (.letI (.cmp .neq (.v 32) (.c 0)) (.ite (.v 33) (.exit (.exit (.fail 180))) (.letI (.add (.v 28) (.c 1)) (.again [.v 34] []))))))) (.letI (.get 32 (.v 28)) (.letI (.cmp .neq (.v 31) (.c 0)) (.ite (.v 32) (.exit (.exit (.fail 180))) (.letI (.add (.v 28) (.c 1)) (.again [.v 33] []))))))) (.exit (.letI (.add (.v 25) (.c 1)) (.again [.v 30] []))))))) (.exit (.call 12 (Go.Sx.L2.mZe).rel [.v 24, .v 5] [16, 17, 18, 19, 20, 21, 22, 23, 24, 25, 26, 27, 28, 29, 30, 31] 0 16 (.call 11 (Go.Sx.L2.mFr).rel [.v 24, .v 5] [32, 33, 34, 35, 36, 37, 38, 39, 40, 41, 42, 43, 44, 45, 46, 47] 1 1 (.letI (.get 48 (.v 8)) (.letI (.cmp .eql (.v 28) (.c 0)) (.need .neq (.v 29) (.c 0) (.done [] [])))))))))))))))))))))))))))))))))))))))))))))))))
theorem MemOwn_tree : (lawSpec L2.f_messuagelaw2_MemOwn [.one (.i .i64), .one (.i .i64), .one (.i .u64)]).exe Tryz.prog (withS (L2.cfgB Tryz.prog) [L2.mSt, L2.mZe, L2.mFr]) [{ f := L2.f_messuagelaw2_MemOwn, reg := 9, ints := [(9, 0, 16)] }, { f := L2.f_messuagelaw2_MemOwn, reg := 13, ints := [(40, 0, 16)] }] 20 200 = MemOwn_t := by kernel_rfl
theorem MemOwn_vc (Q : List Int → List (List Int) → Prop) (v0 v1 v2 : Int) : MemOwn_t.dn ⟨Q, []⟩ 3 [v2, v1, v0] 0 [] = ((Go.Sx.L2.yes Go.Sx.L2.f_messuagelaw2_begun).rel.pre [] [] ∧
((Go.Sx.L2.yes Go.Sx.L2.f_messuagelaw2_begun).rel.post [] [] [] [] → ∀ v3 : Int, v3 = (v0).tmod (16 : Int) → ∀ v4 : Int, v4 = v3 + (16 : Int) → ∀ v5 : Int, v5 = (v4).tmod (16 : Int) → ∀ v6 : Int, v6 = (v1).tmod (16 : Int) → ∀ v7 : Int, v7 = v6 + (16 : Int) → ∀ v8 : Int, v8 = (v7).tmod (16 : Int) → ∀ v9 : Int, (1 : Int) ≤ v9 → v9 ≤ (9223372036854775807 : Int) → ∀ v10 : Int, (2 : Int) ≤ v10 → v10 ≤ (9223372036854775807 : Int) → ∀ v11 : Int, (3 : Int) ≤ v11 → v11 ≤ (9223372036854775807 : Int) → ∀ v12 : Int, (4 : Int) ≤ v12 → v12 ≤ (9223372036854775807 : Int) → ∀ v13 : Int, (5 : Int) ≤ v13 → v13 ≤ (9223372036854775807 : Int) → ∀ v14 : Int, (6 : Int) ≤ v14 → v14 ≤ (9223372036854775807 : Int) → ∀ v15 : Int, (7 : Int) ≤ v15 → v15 ≤ (9223372036854775807 : Int) → ∀ v16 : Int, (8 : Int) ≤ v16 → v16 ≤ (9223372036854775807 : Int) → ∀ v17 : Int, (9 : Int) ≤ v17 → v17 ≤ (9223372036854775807 : Int) → ∀ v18 : Int, (10 : Int) ≤ v18 → v18 ≤ (9223372036854775807 : Int) → ∀ v19 : Int, (11 : Int) ≤ v19 → v19 ≤ (9223372036854775807 : Int) → ∀ v20 : Int, (12 : Int) ≤ v20 → v20 ≤ (9223372036854775807 : Int) → ∀ v21 : Int, (13 : Int) ≤ v21 → v21 ≤ (9223372036854775807 : Int) → ∀ v22 : Int, (14 : Int) ≤ v22 → v22 ≤ (9223372036854775807 : Int) → ∀ v23 : Int, (15 : Int) ≤ v23 → v23 ≤ (9223372036854775807 : Int) → ∀ v24 : Int, (16 : Int) ≤ v24 → v24 ≤ (9223372036854775807 : Int) → ∀ L0 : List Int, L0 = [(0 : Int), (0 : Int), (0 : Int), (0 : Int), (0 : Int), (0 : Int), (0 : Int), (0 : Int), (0 : Int), (0 : Int), (0 : Int), (0 : Int), (0 : Int), (0 : Int), (0 : Int), (0 : Int)] → ∀ L1 : List Int, L1 = [(0 : Int), (0 : Int), (0 : Int), (0 : Int), (0 : Int), (0 : Int), (0 : Int), (0 : Int), (0 : Int), (0 : Int), (0 : Int), (0 : Int), (0 : Int), (0 : Int), (0 : Int), (0 : Int)] → ∀ L2 : List Int, L2 = [(0 : Int), (0 : Int), (0 : Int), (0 : Int), (0 : Int), (0 : Int), (0 : Int), (0 : Int), (0 : Int), (0 : Int), (0 : Int), (0 : Int), (0 : Int), (0 : Int), (0 : Int), (0 : Int)] → ∀ L3 : List Int, L3 = [(0 : Int), (0 : Int), (0 : Int), (0 : Int), (0 : Int), (0 : Int), (0 : Int), (0 : Int), (0 : Int), (0 : Int), (0 : Int), (0 : Int), (0 : Int), (0 : Int), (0 : Int), (0 : Int)] → ∀ L4 : List Int, L4 = [(0 : Int), (0 : Int), (0 : Int), (0 : Int), (0 : Int), (0 : Int), (0 : Int), (0 : Int), (0 : Int), (0 : Int), (0 : Int), (0 : Int), (0 : Int), (0 : Int), (0 : Int), (0 : Int)] → ∀ L5 : List Int, L5 = [(0 : Int), (0 : Int), (0 : Int), (0 : Int), (0 : Int), (0 : Int), (0 : Int), (0 : Int), (0 : Int), (0 : Int), (0 : Int), (0 : Int), (0 : Int), (0 : Int), (0 : Int), (0 : Int)] → ∀ L6 : List Int, L6 = [(0 : Int), (0 : Int), (0 : Int), (0 : Int), (0 : Int), (0 : Int), (0 : Int), (0 : Int), (0 : Int), (0 : Int), (0 : Int), (0 : Int), (0 : Int), (0 : Int), (0 : Int), (0 : Int)] → ∀ L7 : List Int, L7 = [(0 : Int), (0 : Int), (0 : Int), (0 : Int), (0 : Int), (0 : Int), (0 : Int), (0 : Int), (0 : Int), (0 : Int), (0 : Int), (0 : Int), (0 : Int), (0 : Int), (0 : Int), (0 : Int)] → ∀ L8 : List Int, L8 = [(0 : Int), (0 : Int), (0 : Int), (0 : Int), (0 : Int), (0 : Int), (0 : Int), (0 : Int), (0 : Int), (0 : Int), (0 : Int), (0 : Int), (0 : Int), (0 : Int), (0 : Int), (0 : Int)] → ∀ L9 : List Int, L9 = [(0 : Int), (0 : Int), (0 : Int), (0 : Int), (0 : Int), (0 : Int), (0 : Int), (0 : Int), (0 : Int), (0 : Int), (0 : Int), (0 : Int), (0 : Int), (0 : Int), (0 : Int), (0 : Int)] → ∀ L10 : List Int, L10 = [(0 : Int), (0 : Int), (0 : Int), (0 : Int), (0 : Int), (0 : Int), (0 : Int), (0 : Int), (0 : Int), (0 : Int), (0 : Int), (0 : Int), (0 : Int), (0 : Int), (0 : Int), (0 : Int)] → ∀ L11 : List Int, L11 = [(0 : Int), (0 : Int), (0 : Int), (0 : Int), (0 : Int), (0 : Int), (0 : Int), (0 : Int), (0 : Int), (0 : Int), (0 : Int), (0 : Int), (0 : Int), (0 : Int), (0 : Int), (0 : Int)] → ∀ L12 : List Int, L12 = [(0 : Int), (0 : Int), (0 : Int), (0 : Int), (0 : Int), (0 : Int), (0 : Int), (0 : Int), (0 : Int), (0 : Int), (0 : Int), (0 : Int), (0 : Int), (0 : Int), (0 : Int), (0 : Int)] → ∀ L13 : List Int, L13 = [(0 : Int), (0 : Int), (0 : Int), (0 : Int), (0 : Int), (0 : Int), (0 : Int), (0 : Int), (0 : Int), (0 : Int), (0 : Int), (0 : Int), (0 : Int), (0 : Int), (0 : Int), (0 : Int)] → ∀ L14 : List Int, L14 = [(0 : Int), (0 : Int), (0 : Int), (0 : Int), (0 : Int), (0 : Int), (0 : Int), (0 : Int), (0 : Int), (0 : Int), (0 : Int), (0 : Int), (0 : Int), (0 : Int), (0 : Int), (0 : Int)] → ∀ L15 : List Int, L15 = [(0 : Int), (0 : Int), (0 : Int), (0 : Int), (0 : Int), (0 : Int), (0 : Int), (0 : Int), (0 : Int), (0 : Int), (0 : Int), (0 : Int), (0 : Int), (0 : Int), (0 : Int), (0 : Int)] → (Go.Sx.L2.mSt).rel.pre [v24, v5, v8, v2] [L0, L1, L2, L3, L4, L5, L6, L7, L8, L9, L10, L11, L12, L13, L14, L15] ∧
(∀ L16 : List Int, ∀ L17 : List Int, ∀ L18 : List Int, ∀ L19 : List Int, ∀ L20 : List Int, ∀ L21 : List Int, ∀ L22 : List Int, ∀ L23 : List Int, ∀ L24 : List Int, ∀ L25 : List Int, ∀ L26 : List Int, ∀ L27 : List Int, ∀ L28 : List Int, ∀ L29 : List Int, ∀ L30 : List Int, ∀ L31 : List Int, (Go.Sx.L2.mSt).rel.post [v24, v5, v8, v2] [L0, L1, L2, L3, L4, L5, L6, L7, L8, L9, L10, L11, L12, L13, L14, L15] [] [L16, L17, L18, L19, L20, L21, L22, L23, L24, L25, L26, L27, L28, L29, L30, L31] → ∃ (I0 : List Int → List (List Int) → Prop) (μ0 : List Int → List (List Int) → Nat), I0 [(0 : Int)] [] ∧
(∀ v25 : Int, I0 [v25] [] →
 ((v25 < (16 : Int)) → (Go.Sx.L2.mFr).rel.pre [v24, v25] [L16, L17, L18, L19, L20, L21, L22, L23, L24, L25, L26, L27, L28, L29, L30, L31] ∧
(∀ v27 : Int, ∀ L32 : List Int, (Go.Sx.L2.mFr).rel.post [v24, v25] [L16, L17, L18, L19, L20, L21, L22, L23, L24, L25, L26, L27, L28, L29, L30, L31] [v27] [L32] → ∃ (I1 : List Int → List (List Int) → Prop) (μ1 : List Int → List (List Int) → Nat), I1 [(0 : Int)] [] ∧
(∀ v28 : Int, I1 [v28] [] →
 ((v28 < (16 : Int)) → ((v5 = v25) → ((v8 = v28) → ∀ v32 : Int, v32 = (L32).getD (v28).toNat 0 → ((v2 ≠ v32) → False) ∧
((v2 = v32) → ∀ v34 : Int, v34 = v28 + (1 : Int) → (I1 [v34] [] ∧ μ1 [v34] [] < μ1 [v28] []))) ∧
((v8 ≠ v28) → ∀ v32 : Int, v32 = (L32).getD (v28).toNat 0 → ((v32 ≠ (0 : Int)) → False) ∧
((v32 = (0 : Int)) → ∀ v34 : Int, v34 = v28 + (1 : Int) → (I1 [v34] [] ∧ μ1 [v34] [] < μ1 [v28] [])))) ∧
((v5 ≠ v25) → ∀ v31 : Int, v31 = (L32).getD (v28).toNat 0 → ((v31 ≠ (0 : Int)) → False) ∧
((v31 = (0 : Int)) → ∀ v33 : Int, v33 = v28 + (1 : Int) → (I1 [v33] [] ∧ μ1 [v33] [] < μ1 [v28] [])))) ∧
(((16 : Int) ≤ v28) → ∀ v30 : Int, v30 = v25 + (1 : Int) → (I0 [v30] [] ∧ μ0 [v30] [] < μ0 [v25] []))))) ∧
(((16 : Int) ≤ v25) → (Go.Sx.L2.mZe).rel.pre [v24, v5] [L16, L17, L18, L19, L20, L21, L22, L23, L24, L25, L26, L27, L28, L29, L30, L31] ∧
(∀ L32 : List Int, ∀ L33 : List Int, ∀ L34 : List Int, ∀ L35 : List Int, ∀ L36 : List Int, ∀ L37 : List Int, ∀ L38 : List Int, ∀ L39 : List Int, ∀ L40 : List Int, ∀ L41 : List Int, ∀ L42 : List Int, ∀ L43 : List Int, ∀ L44 : List Int, ∀ L45 : List Int, ∀ L46 : List Int, ∀ L47 : List Int, (Go.Sx.L2.mZe).rel.post [v24, v5] [L16, L17, L18, L19, L20, L21, L22, L23, L24, L25, L26, L27, L28, L29, L30, L31] [] [L32, L33, L34, L35, L36, L37, L38, L39, L40, L41, L42, L43, L44, L45, L46, L47] → (Go.Sx.L2.mFr).rel.pre [v24, v5] [L32, L33, L34, L35, L36, L37, L38, L39, L40, L41, L42, L43, L44, L45, L46, L47] ∧
(∀ v27 : Int, ∀ L48 : List Int, (Go.Sx.L2.mFr).rel.post [v24, v5] [L32, L33, L34, L35, L36, L37, L38, L39, L40, L41, L42, L43, L44, L45, L46, L47] [v27] [L48] → ∀ v28 : Int, v28 = (L48).getD (v8).toNat 0 → ∀ v29 : Int, v29 = b2i (v28 == (0 : Int)) → (v29 ≠ (0 : Int)) ∧ Q [] []))))))) := by kernel_rfl
set_option maxHeartbeats 4000000 in
theorem memOwn_holds0 : (lawSpec L2.f_messuagelaw2_MemOwn [.one (.i .i64), .one (.i .i64), .one (.i .u64)]).Holds Tryz.prog L2.ro := FSpec.holdsV (cfg := withS (L2.cfgB Tryz.prog) [L2.mSt, L2.mZe, L2.mFr]) [{ f := L2.f_messuagelaw2_MemOwn, reg := 9, ints := [(9, 0, 16)] }, { f := L2.f_messuagelaw2_MemOwn, reg := 13, ints := [(40, 0, 16)] }] 20 200 (withS_ok cfgB_ok ⟨mSt_holds, mZe_holds, mFr_holds, trivial⟩) mixed (t := MemOwn_t) MemOwn_tree (by
  show ∀ (v0 v1 v2 : Int) , _
  intro v0 v1 v2  hp hr hl
  replace hr : ((-9223372036854775808 : Int) ≤ v0 ∧ v0 ≤ (9223372036854775807 : Int)) ∧ ((-9223372036854775808 : Int) ≤ v1 ∧ v1 ≤ (9223372036854775807 : Int)) ∧ ((0 : Int) ≤ v2 ∧ v2 ≤ (18446744073709551615 : Int)) ∧ True := hr
  replace hp : True := hp
  show MemOwn_t.dn ⟨_, []⟩ 3 [v2, v1, v0] 0 []
  rw [MemOwn_vc]
  show ((L2.yes L2.f_messuagelaw2_begun).rel.pre [] [] ∧ _)
  refine ⟨trivial, fun _ => ?_⟩
  intro v3 e3 v4 e4 v5 e5 v6 e6 v7 e7 v8 e8
  have q3 := tmodR (x := v0) (m := 16) (by omega)
  have q5 := tmodP (x := v4) (m := 16) (by omega) (by omega)
  have q6 := tmodR (x := v1) (m := 16) (by omega)
  have q8 := tmodP (x := v7) (m := 16) (by omega) (by omega)
  have f0 : 0 ≤ v5 ∧ v5 < 16 := by omega
  have a0 : 0 ≤ v8 ∧ v8 < 16 := by omega
  clear q3 q5 q6 q8 e3 e4 e5 e6 e7 e8 hr hp hl
  iterate 15 (intro _ _ _)
  intro v24 _ _
  intro L0 e0 L1 e1 L2 e2 L3 e3 L4 e4 L5 e5 L6 e6 L7 e7 L8 e8 L9 e9 L10 e10 L11 e11 L12 e12 L13 e13 L14 e14 L15 e15
  refine ⟨trivial, ?_⟩
  intro L16 L17 L18 L19 L20 L21 L22 L23 L24 L25 L26 L27 L28 L29 L30 L31 hS
  subst e0 e1 e2 e3 e4 e5 e6 e7 e8 e9 e10 e11 e12 e13 e14 e15
  replace hS : [L16, L17, L18, L19, L20, L21, L22, L23, L24, L25, L26, L27, L28, L29, L30, L31] = (List.range 16).map fun (j : Nat) => if v5 = (j : Int) then ((List.replicate 16 (List.replicate 16 (0 : Int))).getD j []).set v8.toNat v2 else (List.replicate 16 (List.replicate 16 (0 : Int))).getD j [] := hS
  have G : ∀ j, j < 16 → List.getD [L16, L17, L18, L19, L20, L21, L22, L23, L24, L25, L26, L27, L28, L29, L30, L31] j [] = if v5 = (j : Int) then (List.replicate 16 (0 : Int)).set v8.toNat v2 else (List.replicate 16 (0 : Int)) := fun j hj => by
    rw [mo_get hS hj, mo_rep hj]
  have Gl : ∀ j, j < 16 → (List.getD [L16, L17, L18, L19, L20, L21, L22, L23, L24, L25, L26, L27, L28, L29, L30, L31] (0 + j) []).length = 16 := fun j hj => by
    rw [Nat.zero_add, G j hj]; split <;> simp
  obtain ⟨a, rfl⟩ : ∃ m : Nat, v8 = m := ⟨v8.toNat, by omega⟩
  have ha : a < 16 := by omega
  rw [Int.toNat_natCast] at G
  refine ⟨fun xs ys => match xs, ys with | [i], [] => 0 ≤ i ∧ i ≤ 16 | _, _ => False, fun xs _ => match xs with | i :: _ => ((16 : Int) - i).toNat | _ => 0, ?_, ?_⟩ <;> dsimp only
  · exact ⟨by omega, by omega⟩
  · intro v25 hI
    obtain ⟨i0, i1⟩ := hI
    refine ⟨fun c => ⟨Gl, ?_⟩, fun c => ⟨Gl, ?_⟩⟩
    · intro v27 L48 hF
      obtain ⟨i, rfl⟩ : ∃ m : Nat, v25 = m := ⟨v25.toNat, by omega⟩
      have hL : L48 = if v5 = (i : Int) then (List.replicate 16 (0 : Int)).set a v2 else (List.replicate 16 (0 : Int)) := by
        have h1 : [L48] = [List.getD [L16, L17, L18, L19, L20, L21, L22, L23, L24, L25, L26, L27, L28, L29, L30, L31] (i : Int).toNat []] := hF
        rw [Int.toNat_natCast, G i (by omega)] at h1
        simpa using h1
      clear hF hS G Gl
      refine ⟨fun xs ys => match xs, ys with | [k], [] => 0 ≤ k ∧ k ≤ 16 | _, _ => False, fun xs _ => match xs with | k :: _ => ((16 : Int) - k).toNat | _ => 0, ?_, ?_⟩ <;> dsimp only
      · exact ⟨by omega, by omega⟩
      · intro v28 hK
        obtain ⟨k0, k1⟩ := hK
        obtain ⟨k, rfl⟩ : ∃ m : Nat, v28 = m := ⟨v28.toNat, by omega⟩
        refine ⟨fun c1 => ⟨fun p => ⟨fun q w ew => ⟨fun n => ?_, fun _ z ez => ⟨⟨by omega, by omega⟩, by omega⟩⟩, fun q w ew => ⟨fun n => ?_, fun _ z ez => ⟨⟨by omega, by omega⟩, by omega⟩⟩⟩, fun p w ew => ⟨fun n => ?_, fun _ z ez => ⟨⟨by omega, by omega⟩, by omega⟩⟩⟩, fun c1 z ez => ⟨⟨by omega, by omega⟩, by omega⟩⟩
        · rw [hL, if_pos p, Int.toNat_natCast, zset_get ha (by omega), if_pos (by omega)] at ew
          exact n ew.symm
        · rw [hL, if_pos p, Int.toNat_natCast, zset_get ha (by omega), if_neg (by omega)] at ew
          exact n ew
        · rw [hL, if_neg p, Int.toNat_natCast, z_get (by omega)] at ew
          exact n ew
    · intro L32 L33 L34 L35 L36 L37 L38 L39 L40 L41 L42 L43 L44 L45 L46 L47 hZ
      replace hZ : [L32, L33, L34, L35, L36, L37, L38, L39, L40, L41, L42, L43, L44, L45, L46, L47] = (List.range 16).map fun (j : Nat) => if v5 = (j : Int) then (List.replicate 16 (0 : Int)) else List.getD [L16, L17, L18, L19, L20, L21, L22, L23, L24, L25, L26, L27, L28, L29, L30, L31] j [] := hZ
      refine ⟨fun j hj => ?_, ?_⟩
      · rw [Nat.zero_add]
        have := mo_get hZ hj
        refine (congrArg List.length this).trans ?_
        split
        · simp
        · have := Gl j hj; rw [Nat.zero_add] at this; exact this
      · intro v27 L48 hF v28 e28 v29 e29
        have h1 : [L48] = [List.getD [L32, L33, L34, L35, L36, L37, L38, L39, L40, L41, L42, L43, L44, L45, L46, L47] v5.toNat []] := hF
        rw [mo_get hZ (by omega), if_pos (by omega)] at h1
        have h2 : L48 = (List.replicate 16 (0 : Int)) := by simpa using h1
        rw [h2, Int.toNat_natCast, z_get ha] at e28
        subst e28
        subst e29
        exact ⟨by decide, trivial⟩)
theorem memOwn_holds : ((lawSpec L2.f_messuagelaw2_MemOwn [.one (.i .i64), .one (.i .i64), .one (.i .u64)]).withPre fun _ => True).Holds Tryz.prog L2.ro := holds_withPre _ memOwn_holds0

theorem memOwn_calls {H : Type} {enc : TypeId × Value → H} {W : World} {base : Nat} {args : Array Value} {ds : List (DataW H)} {p : List MemPlace} (hval : ∀ (j : Nat) t v, Tryz.f3.params[j]? = some t → args[j]? = some v → Value.okWide Tryz.prog W .any base t v)
    (hA : DataW.TrodAll enc Tryz.prog W 0 (fun _ => true) true Tryz.f3.params.toList args.toList ds p) (hL : laidMetH Tryz.prog laid1 W) : Calls Tryz.prog 3 args W fun e W' => e = .returned (.bool true) ∧ Go.Sx.Frame ⟨W, [], L2.ro⟩ W' := by
  rw [Tryz.params3] at hA hval
  obtain ⟨v0, v1, v2, d0, d1, d2, p0, p1, p2, rfl, rfl, rfl, h0, h1, h2⟩ := trodAll_three hA
  obtain ⟨n0, q0⟩ := par_int (base := 0) und3 (hval 0 3 v0 rfl rfl) h0
  obtain ⟨n1, q1⟩ := par_int (base := 0) und3 (hval 1 3 v1 rfl rfl) h1
  obtain ⟨n2, q2⟩ := par_int (base := 0) und22 (hval 2 22 v2 rfl rfl) h2
  exact law_calls (memOwn_holds) Tryz.func3 (show Tryz.f3.body = some _ from rfl) (by kernel_rfl) (.cons q0 (.cons q1 (.cons q2 .none))) trivial (ro_of_laid hL)
set_option maxHeartbeats 1000000 in
theorem memOwn_lifted (os : Os) (started : os.Started) (H : Type) (enc : TypeId × Value → H) :
    ReturnsInHanded {} Tryz.checked os 3 .any (fun w args => (Rows.memOwnSpec.pre enc Tryz.prog Tryz.f3 [] false w args ∧ laidMetH Tryz.prog laid1 w) ∧ sizedMet enc Tryz.prog Tryz.f3 (OpenSpec.ofChange Rows.memOwnSpec) false w args)
      (Rows.memOwnSpec.post enc Tryz.prog Tryz.f3 false true false false) := by
  refine returnsInHanded_of_change_and (C := Tryz.checked) (X := fun w _ => laidMetH Tryz.prog laid1 w) (fun _ _ _ hh h => h.of_heap hh) Tryz.own started (by kernel_rfl) Tryz.func3
    (ChangeSpec.witness_at (enc := enc) (C := Tryz.checked) (os := os) (X := fun w _ => laidMetH Tryz.prog laid1 w) false (laidWorld os) #[.int .i64 0, .int .i64 0, .int .u64 0] 8 rfl (by kernel_rfl) (by kernel_rfl) (by kernel_rfl) (by kernel_rfl) (by kernel_rfl) (laidWorld_met os _)) ?_
  intro W base args ds gs before hval0 hW _ _ hL _
  have hval : ∀ (j : Nat) t v, Tryz.f3.params[j]? = some t → args[j]? = some v → Value.okWide Tryz.prog W .any base t v := hval0
  have hW' := hW
  obtain ⟨p, q, hA0, hV0, rfl, hfz, hnd⟩ := hW
  have hcall := memOwn_calls (enc := enc) hval hA0 hL
  refine Calls.mono hcall ?_
  rintro e W' ⟨rfl, hfr⟩
  exact ⟨_, rfl, post_kept Tryz.laidOut (by kernel_rfl) rfl rfl und4 hW' hfr (by
    have hg : gs = [] := by cases gs with | nil => rfl | cons g r => exact absurd hV0 (by intro h; cases h)
    subst hg
    have hA1 : DataW.TrodAll enc Tryz.prog W 0 (fun _ => true) true Tryz.f3.params.toList args.toList ds p := hA0
    rw [Tryz.params3] at hA1
    obtain ⟨v0, v1, v2, d0, d1, d2, p0, p1, p2, ea, rfl, ec, h0, h1, h2⟩ := trodAll_three hA1
    rfl)⟩

theorem memOwn_row : Rows.MemOwnSaid :=
  OpenClaim.holds_of_wide 3 Tryz.f3 rfl rfl rfl rfl rfl rfl rfl ⟨rfl, rfl, rfl, rfl, rfl⟩ rfl rfl rfl rfl rfl (by kernel_rfl) Tryz.func3 (restFacts.2 _ _ _ _ _ Tryz.mayEnter Tryz.liftsFinal Tryz.make (by kernel_rfl))
    (of_decide_eq_true (by kernel_rfl)) (by unfold Func.isWrapper; rw [if_neg (of_decide_eq_false (by kernel_rfl))]; exact ⟨rfl, rfl⟩)
    (fun os started H enc _ => memOwn_lifted os started H enc)
theorem memOwn_card : Rows.MemOwnCardSaid :=
  Claim7.holds_tied_plain_at .later [] [.handle] true (true, "69927e01dcca4c7c2bbffabccbcc929abb28667155f79c84450e8dbe7e20a15b") true
    memOwn_row (fun _ h => by cases h) (by kernel_rfl) (fun _ h => by cases h) memOwn_row_tie rfl ⟨rfl, rfl⟩ Tryz.mainIs rfl
    (fun f fn hf hfn => by
      obtain rfl : f = 3 := Option.some.inj ((show Tryz.prog.funcNamed "messuage/messuagelaw2.MemOwn" = some 3 by kernel_rfl).symm.trans hf) |>.symm
      obtain rfl : fn = Tryz.f3 := (Option.some.inj (Tryz.func3.symm.trans hfn)).symm
      exact ⟨by kernel_rfl, fun j t ht => by
        rw [Tryz.params3] at ht
        rcases j with _ | _ | _ | j
        · obtain rfl : 3 = t := by simpa using ht
          exact (show Tryz.prog.wantsStandIn 3 = false by kernel_rfl)
        · obtain rfl : 3 = t := by simpa using ht
          exact (show Tryz.prog.wantsStandIn 3 = false by kernel_rfl)
        · obtain rfl : 22 = t := by simpa using ht
          exact (show Tryz.prog.wantsStandIn 22 = false by kernel_rfl)
        · simp at ht⟩)
    (by kernel_rfl)
#print axioms memOwn_card
end Go.Proofs.YtbpilohnhhbbpabGreatDoor
