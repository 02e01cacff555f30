/- A part of the proof of messuagelaw11.UserAll: some of the arguments nil. -/
import Derived.Test.YtbpilohnhhbbpaaGreatDoorL2B
import Derived.Test.YtbpilohnhhbbpaaGreatDoorSxM7
import Derived.Test.YtbpilohnhhbbpaaGreatDoorSxSel
import Derived.Test.YtbpilohnhhbbpaaGreatDoorL2CB
import Derived.Test.YtbpilohnhhbbpaaGreatDoorL2S
import Derived.Test.YtbpilohnhhbbpaaGreatDoorL2UserAllSNST
import Derived.Test.YtbpilohnhhbbpaaGreatDoorL2YA
import Derived.Test.YtbpilohnhhbbpaaGreatDoorL2YB
import Derived.Test.YtbpilohnhhbbpaaGreatDoorL2YC
set_option linter.unusedVariables false
set_option linter.constructorNameAsVariable false
set_option linter.unusedSimpArgs false
open Go Go.Sx
namespace Go.Proofs.YtbpilohnhhbbpaaGreatDoor
open Go.ChangeShapes Go.WideShapes Go.RowKit
set_option maxRecDepth 100000
theorem UserAll_sns_tree : (lawSpec L2.f_messuagelaw11_UserAll [.slc L2.ks4, .nil, .slc L2.ksAsk]).exe Tryz.prog (withS (L2.cfgB Tryz.prog) [L2.kind_ L2.f_messuageref2_Kind, L2.check_ L2.f_messuageref2_Check, L2.lets_ L2.f_messuageref2_Lets, L2.tNew, L2.tInsert, L2.bNew, L2.bFill, L2.bLines, L2.uDo 16, L2.rNew, L2.rFind, L2.rFill, L2.rFlush, L2.rWord, L2.rKNew, L2.mNew16]) [{ f := L2.f_messuagelaw11_UserAll, reg := 9, ints := [(14, 0, 12)], lists := [(8, [], some (-9223372036854775808, 9223372036854775807)), (11, [], some (-9223372036854775808, 9223372036854775807))], join := some 0 }, { f := L2.f_messuagelaw11_UserAll, reg := 14, ints := [(15, 0, 8)], lists := [(9, [], some (-9223372036854775808, 9223372036854775807)), (13, [], some (-9223372036854775808, 9223372036854775807))], join := some 2 }, { f := L2.f_messuagelaw11_UserAll, reg := 19, ints := [(16, 0, 40)], lists := [(8, [], some (-9223372036854775808, 9223372036854775807)), (11, [], some (-9223372036854775808, 9223372036854775807)), (10, [0, 0], some (0, 18446744073709551615)), (10, [0, 1], some (0, 18446744073709551615)), (10, [0, 2], some (0, 18446744073709551615)), (10, [0, 3], some (0, 18446744073709551615)), (10, [0, 4], some (0, 18446744073709551615)), (10, [0, 5], some (0, 18446744073709551615)), (10, [0, 6], some (0, 18446744073709551615)), (10, [0, 7], some (0, 18446744073709551615)), (10, [0, 8], some (0, 18446744073709551615)), (10, [0, 9], some (0, 18446744073709551615)), (10, [0, 10], some (0, 18446744073709551615)), (10, [0, 11], some (0, 18446744073709551615)), (10, [0, 12], some (0, 18446744073709551615)), (10, [0, 13], some (0, 18446744073709551615)), (10, [0, 14], some (0, 18446744073709551615)), (10, [0, 15], some (0, 18446744073709551615)), (12, [], some (-9223372036854775808, 18446744073709551615))] }, { f := L2.f_messuagelaw11_UserAll, reg := 48, ints := [(221, 0, 8)] }] 20 200 = UserAll_sns_t := by
  have h0 := UserAll_sns_s0.trans (idT_eq _)
  have h1 := UserAll_sns_s1.trans (idT_eq _)
  have h2 := UserAll_sns_s2.trans (idT_eq _)
  have h3 := UserAll_sns_s3.trans (idT_eq _)
  have h4 := UserAll_sns_s4.trans (idT_eq _)
  have h5 := UserAll_sns_s5.trans (idT_eq _)
  have h6 := UserAll_sns_s6.trans (idT_eq _)
  have h7 := UserAll_sns_s7.trans (idT_eq _)
  have h8 := UserAll_sns_s8.trans (idT_eq _)
  have h9 := UserAll_sns_s9.trans (idT_eq _)
  have h10 := UserAll_sns_s10.trans (idT_eq _)
  have h11 := UserAll_sns_s11.trans (idT_eq _)
  have h12 := UserAll_sns_s12.trans (idT_eq _)
  have h13 := UserAll_sns_s13.trans (idT_eq _)
  have h14 := UserAll_sns_s14.trans (idT_eq _)
  have h15 := UserAll_sns_s15.trans (idT_eq _)
  have h16 := UserAll_sns_s16.trans (idT_eq _)
  have h17 := UserAll_sns_s17.trans (idT_eq _)
  have h18 := UserAll_sns_s18.trans (idT_eq _)
  show UserAll_sns_x = UserAll_sns_t
  have k0 := part_eq (s := [true, true, true, true, true, true]) (r := [true, false, false, false]) h1 (pk_eq _ _ [true, true, true, true, true, true, true, false, false, false] h3 h2)
  have k1 := part_eq (s := [true, true, true, true, true, false]) (r := [true, false, false, false]) h4 (pk_eq _ _ [true, true, true, true, true, false, true, false, false, false] h6 h5)
  have k2 := part_eq (s := [true, true, true, true, false, true, true]) (r := [true, false, false, false]) h7 (pk_eq _ _ [true, true, true, true, false, true, true, true, false, false, false] h9 h8)
  have k3 := part_eq (s := [true, true, true, true, false, true, false]) (r := [true, false, false, false]) h10 (pk_eq _ _ [true, true, true, true, false, true, false, true, false, false, false] h12 h11)
  have k4 := part_eq (s := [true, true, true, true, false, false, true]) (r := [true, false, false, false]) h13 (pk_eq _ _ [true, true, true, true, false, false, true, true, false, false, false] h15 h14)
  have k5 := part_eq (s := [true, true, true, true, false, false, false]) (r := [true, false, false, false]) h16 (pk_eq _ _ [true, true, true, true, false, false, false, true, false, false, false] h18 h17)
  exact mn_eq _ _ [true, true, true, true] h0 (pk_eq _ _ [true, true, true, true] (pk_eq _ _ [true, true, true, true, false] (pk_eq _ _ [true, true, true, true, false, false] k5 k4) (pk_eq _ _ [true, true, true, true, false, true] k3 k2)) (pk_eq _ _ [true, true, true, true, true] k1 k0))
theorem UserAll_sns_R_vc (Q : List Int → List (List Int) → Prop) (I2 : List Int → List (List Int) → Prop) (μ2 : List Int → List (List Int) → Nat) (v0 v1 v2 v3 v4 v5 v6 v7 v8 v9 v10 v11 v14 v15 v16 v17 v18 v19 v20 v21 v22 v23 v24 v25 v26 v27 v28 v29 v30 v31 : Int) (L0 L1 L2 L3 L4 L5 L6 L7 L8 L9 L10 L11 L12 L13 L14 L15 L16 L17 L18 L19 L20 L21 L22 L23 L24 L25 L26 L27 L28 L29 L30 L31 L32 L33 L34 L35 L36 L37 L38 L39 L40 L41 L42 L43 L44 L45 L46 L47 L48 L49 L50 L51 L52 L53 L54 L55 L56 L57 L58 L59 L60 L61 L62 : List Int) : (Go.Sx.L2.uaR 3 1).dn ⟨Q, [fun xs' ys' => I2 xs' ys' ∧ μ2 xs' ys' < μ2 [v11] [L27, L28, L29, L30, L31, L32, L33, L34, L35, L36, L37, L38, L39, L40, L41, L42, L43, L44, L45]]⟩ 32 [v31, v30, v29, v28, v27, v26, v25, v24, v23, v22, v21, v20, v19, v18, v17, v16, v15, v14, (1 : Int), (1 : Int), v11, v10, v9, v8, v7, v6, v5, v4, v3, v2, v1, v0] 63 [L62, L61, L60, L59, L58, L57, L56, L55, L54, L53, L52, L51, L50, L49, L48, L47, L46, L45, L44, L43, L42, L41, L40, L39, L38, L37, L36, L35, L34, L33, L32, L31, L30, L29, L28, L27, L26, L25, L24, L23, L22, L21, L20, L19, L18, L17, L16, L15, L14, L13, L12, L11, L10, L9, L8, L7, L6, L5, L4, L3, L2, L1, L0] = Go.Sx.L2.uaBody Q I2 μ2 v16 v18 v20 v22 v24 v11 v3 v14 v5 v25 v26 v27 v28 v29 v30 v31 L46 L28 L47 L48 L49 L50 L51 L52 L53 L54 L55 L56 L57 L58 L59 L60 L61 L62 L45 L27 L29 L30 L31 L32 L33 L34 L35 L36 L37 L38 L39 L40 L41 L42 L43 L44 L26 := by kernel_rfl
theorem UserAll_sns_vc (Q : List Int → List (List Int) → Prop) (v0 v1 v2 v3 v4 v5 : Int) (L0 L1 : List Int) : UserAll_sns_t.dn ⟨Q, []⟩ 6 [v5, v4, v3, v2, v1, v0] 2 [L1, L0] = ((Go.Sx.L2.yes Go.Sx.L2.f_messuagelaw11_begun).rel.pre [] [] ∧
((Go.Sx.L2.yes Go.Sx.L2.f_messuagelaw11_begun).rel.post [] [] [] [] → (Go.Sx.L2.bNew).rel.pre [] [] ∧
(∀ L2 : List Int, (Go.Sx.L2.bNew).rel.post [] [] [] [L2] → (Go.Sx.L2.tNew).rel.pre [] [] ∧
(∀ L3 : List Int, (Go.Sx.L2.tNew).rel.post [] [] [] [L3] → (Go.Sx.L2.mNew16).rel.pre [] [] ∧
(∀ v6 : Int, ∀ L4 : List Int, ∀ L5 : List Int, ∀ L6 : List Int, ∀ L7 : List Int, ∀ L8 : List Int, ∀ L9 : List Int, ∀ L10 : List Int, ∀ L11 : List Int, ∀ L12 : List Int, ∀ L13 : List Int, ∀ L14 : List Int, ∀ L15 : List Int, ∀ L16 : List Int, ∀ L17 : List Int, ∀ L18 : List Int, ∀ L19 : List Int, (Go.Sx.L2.mNew16).rel.post [] [] [v6] [L4, L5, L6, L7, L8, L9, L10, L11, L12, L13, L14, L15, L16, L17, L18, L19] → (Go.Sx.L2.rNew).rel.pre [] [] ∧
(∀ L20 : List Int, (Go.Sx.L2.rNew).rel.post [] [] [] [L20] → (Go.Sx.L2.rKNew).rel.pre [] [] ∧
(∀ L21 : List Int, (Go.Sx.L2.rKNew).rel.post [] [] [] [L21] → ∃ (I0 : List Int → List (List Int) → Prop) (μ0 : List Int → List (List Int) → Nat), I0 [(0 : Int), (0 : Int)] [L2, L20] ∧
(∀ v7 : Int, ∀ v8 : Int, ∀ L22 : List Int, ∀ L23 : List Int, I0 [v7, v8] [L22, L23] →
 (v8 ≠ 0 → ∀ L24 : List Int, L24 = [(0 : Int), (0 : Int), (0 : Int), (0 : Int), (0 : Int), (0 : Int), (0 : Int), (0 : Int), (0 : Int), (0 : Int), (0 : Int), (0 : Int), (0 : Int), (0 : Int), (0 : Int), (0 : Int), (0 : Int), (0 : Int), (0 : Int), (0 : Int), (0 : Int), (0 : Int), (0 : Int), (0 : Int)] → ∃ (I1 : List Int → List (List Int) → Prop) (μ1 : List Int → List (List Int) → Nat), I1 [(0 : Int), (0 : Int)] [L3, L24] ∧
(∀ v9 : Int, ∀ v10 : Int, ∀ L25 : List Int, ∀ L26 : List Int, I1 [v9, v10] [L25, L26] →
 (v10 ≠ 0 → ∃ (I2 : List Int → List (List Int) → Prop) (μ2 : List Int → List (List Int) → Nat), I2 [(0 : Int)] [L22, L23, L4, L5, L6, L7, L8, L9, L10, L11, L12, L13, L14, L15, L16, L17, L18, L19, L21] ∧
(∀ v11 : Int, ∀ L27 : List Int, ∀ L28 : List Int, ∀ L29 : List Int, ∀ L30 : List Int, ∀ L31 : List Int, ∀ L32 : List Int, ∀ L33 : List Int, ∀ L34 : List Int, ∀ L35 : List Int, ∀ L36 : List Int, ∀ L37 : List Int, ∀ L38 : List Int, ∀ L39 : List Int, ∀ L40 : List Int, ∀ L41 : List Int, ∀ L42 : List Int, ∀ L43 : List Int, ∀ L44 : List Int, ∀ L45 : List Int, I2 [v11] [L27, L28, L29, L30, L31, L32, L33, L34, L35, L36, L37, L38, L39, L40, L41, L42, L43, L44, L45] →
 ((v11 < v3) → ((v11 < (40 : Int)) → (v11 < v3) ∧ ∀ v14 : Int, v14 = v11 * (6 : Int) → ∀ v15 : Int, v15 = v14 + (1 : Int) → (v15 < v5) ∧ ∀ v16 : Int, v16 = (L1).getD (v15).toNat 0 → ∀ v17 : Int, v17 = v15 + (1 : Int) → (v17 < v5) ∧ ∀ v18 : Int, v18 = (L1).getD (v17).toNat 0 → ∀ v19 : Int, v19 = v15 + (2 : Int) → (v19 < v5) ∧ ∀ v20 : Int, v20 = (L1).getD (v19).toNat 0 → ∀ v21 : Int, v21 = v15 + (3 : Int) → (v21 < v5) ∧ ∀ v22 : Int, v22 = (L1).getD (v21).toNat 0 → ∀ v23 : Int, v23 = v15 + (4 : Int) → (v23 < v5) ∧ ∀ v24 : Int, v24 = (L1).getD (v23).toNat 0 → (v11 < v3) ∧ (v14 < v5) ∧ ∀ v25 : Int, v25 = (L1).getD (v14).toNat 0 → ((Go.Sx.L2.uDo 16).rel.pre [v6, v25, v16, v18, v20, v22, v24] [L27, L25, L29, L30, L31, L32, L33, L34, L35, L36, L37, L38, L39, L40, L41, L42, L43, L44] ∧
(∀ v26 : Int, ∀ v27 : Int, ∀ v28 : Int, ∀ v29 : Int, ∀ v30 : Int, ∀ v31 : Int, ∀ L46 : List Int, ∀ L47 : List Int, ∀ L48 : List Int, ∀ L49 : List Int, ∀ L50 : List Int, ∀ L51 : List Int, ∀ L52 : List Int, ∀ L53 : List Int, ∀ L54 : List Int, ∀ L55 : List Int, ∀ L56 : List Int, ∀ L57 : List Int, ∀ L58 : List Int, ∀ L59 : List Int, ∀ L60 : List Int, ∀ L61 : List Int, ∀ L62 : List Int, (Go.Sx.L2.uDo 16).rel.post [v6, v25, v16, v18, v20, v22, v24] [L27, L25, L29, L30, L31, L32, L33, L34, L35, L36, L37, L38, L39, L40, L41, L42, L43, L44] [v26, v27, v28, v29, v30, v31] [L46, L47, L48, L49, L50, L51, L52, L53, L54, L55, L56, L57, L58, L59, L60, L61, L62] → ((Go.Sx.L2.uaR 3 1).dn ⟨Q, [fun xs' ys' => I2 xs' ys' ∧ μ2 xs' ys' < μ2 [v11] [L27, L28, L29, L30, L31, L32, L33, L34, L35, L36, L37, L38, L39, L40, L41, L42, L43, L44, L45]]⟩ 32 [v31, v30, v29, v28, v27, v26, v25, v24, v23, v22, v21, v20, v19, v18, v17, v16, v15, v14, (1 : Int), (1 : Int), v11, v10, v9, v8, v7, v6, v5, v4, v3, v2, v1, v0] 63 [L62, L61, L60, L59, L58, L57, L56, L55, L54, L53, L52, L51, L50, L49, L48, L47, L46, L45, L44, L43, L42, L41, L40, L39, L38, L37, L36, L35, L34, L33, L32, L31, L30, L29, L28, L27, L26, L25, L24, L23, L22, L21, L20, L19, L18, L17, L16, L15, L14, L13, L12, L11, L10, L9, L8, L7, L6, L5, L4, L3, L2, L1, L0]) ∧
((Go.Sx.L2.uaR 3 1).dn ⟨Q, [fun xs' ys' => I2 xs' ys' ∧ μ2 xs' ys' < μ2 [v11] [L27, L28, L29, L30, L31, L32, L33, L34, L35, L36, L37, L38, L39, L40, L41, L42, L43, L44, L45]]⟩ 32 [v31, v30, v29, v28, v27, v26, v25, v24, v23, v22, v21, v20, v19, v18, v17, v16, v15, v14, (1 : Int), (1 : Int), v11, v10, v9, v8, v7, v6, v5, v4, v3, v2, v1, v0] 63 [L62, L61, L60, L59, L58, L57, L56, L55, L54, L53, L52, L51, L50, L49, L48, L47, L46, L45, L44, L43, L42, L41, L40, L39, L38, L37, L36, L35, L34, L33, L32, L31, L30, L29, L28, L27, L26, L25, L24, L23, L22, L21, L20, L19, L18, L17, L16, L15, L14, L13, L12, L11, L10, L9, L8, L7, L6, L5, L4, L3, L2, L1, L0]))) ∧
((((Go.Sx.L2.uDo 16).rel.pre [v6, v25, v16, v18, v20, v22, v24] [L27, L25, L29, L30, L31, L32, L33, L34, L35, L36, L37, L38, L39, L40, L41, L42, L43, L44] ∧
(∀ v26 : Int, ∀ v27 : Int, ∀ v28 : Int, ∀ v29 : Int, ∀ v30 : Int, ∀ v31 : Int, ∀ L46 : List Int, ∀ L47 : List Int, ∀ L48 : List Int, ∀ L49 : List Int, ∀ L50 : List Int, ∀ L51 : List Int, ∀ L52 : List Int, ∀ L53 : List Int, ∀ L54 : List Int, ∀ L55 : List Int, ∀ L56 : List Int, ∀ L57 : List Int, ∀ L58 : List Int, ∀ L59 : List Int, ∀ L60 : List Int, ∀ L61 : List Int, ∀ L62 : List Int, (Go.Sx.L2.uDo 16).rel.post [v6, v25, v16, v18, v20, v22, v24] [L27, L25, L29, L30, L31, L32, L33, L34, L35, L36, L37, L38, L39, L40, L41, L42, L43, L44] [v26, v27, v28, v29, v30, v31] [L46, L47, L48, L49, L50, L51, L52, L53, L54, L55, L56, L57, L58, L59, L60, L61, L62] → (Go.Sx.L2.uaR 3 1).dn ⟨Q, [fun xs' ys' => I2 xs' ys' ∧ μ2 xs' ys' < μ2 [v11] [L27, L28, L29, L30, L31, L32, L33, L34, L35, L36, L37, L38, L39, L40, L41, L42, L43, L44, L45]]⟩ 32 [v31, v30, v29, v28, v27, v26, v25, v24, v23, v22, v21, v20, v19, v18, v17, v16, v15, v14, (1 : Int), (1 : Int), v11, v10, v9, v8, v7, v6, v5, v4, v3, v2, v1, v0] 63 [L62, L61, L60, L59, L58, L57, L56, L55, L54, L53, L52, L51, L50, L49, L48, L47, L46, L45, L44, L43, L42, L41, L40, L39, L38, L37, L36, L35, L34, L33, L32, L31, L30, L29, L28, L27, L26, L25, L24, L23, L22, L21, L20, L19, L18, L17, L16, L15, L14, L13, L12, L11, L10, L9, L8, L7, L6, L5, L4, L3, L2, L1, L0])) ∧
((Go.Sx.L2.uDo 16).rel.pre [v6, v25, v16, v18, v20, v22, v24] [L27, L25, L29, L30, L31, L32, L33, L34, L35, L36, L37, L38, L39, L40, L41, L42, L43, L44] ∧
(∀ v26 : Int, ∀ v27 : Int, ∀ v28 : Int, ∀ v29 : Int, ∀ v30 : Int, ∀ v31 : Int, ∀ L46 : List Int, ∀ L47 : List Int, ∀ L48 : List Int, ∀ L49 : List Int, ∀ L50 : List Int, ∀ L51 : List Int, ∀ L52 : List Int, ∀ L53 : List Int, ∀ L54 : List Int, ∀ L55 : List Int, ∀ L56 : List Int, ∀ L57 : List Int, ∀ L58 : List Int, ∀ L59 : List Int, ∀ L60 : List Int, ∀ L61 : List Int, ∀ L62 : List Int, (Go.Sx.L2.uDo 16).rel.post [v6, v25, v16, v18, v20, v22, v24] [L27, L25, L29, L30, L31, L32, L33, L34, L35, L36, L37, L38, L39, L40, L41, L42, L43, L44] [v26, v27, v28, v29, v30, v31] [L46, L47, L48, L49, L50, L51, L52, L53, L54, L55, L56, L57, L58, L59, L60, L61, L62] → (Go.Sx.L2.uaR 3 1).dn ⟨Q, [fun xs' ys' => I2 xs' ys' ∧ μ2 xs' ys' < μ2 [v11] [L27, L28, L29, L30, L31, L32, L33, L34, L35, L36, L37, L38, L39, L40, L41, L42, L43, L44, L45]]⟩ 32 [v31, v30, v29, v28, v27, v26, v25, v24, v23, v22, v21, v20, v19, v18, v17, v16, v15, v14, (1 : Int), (1 : Int), v11, v10, v9, v8, v7, v6, v5, v4, v3, v2, v1, v0] 63 [L62, L61, L60, L59, L58, L57, L56, L55, L54, L53, L52, L51, L50, L49, L48, L47, L46, L45, L44, L43, L42, L41, L40, L39, L38, L37, L36, L35, L34, L33, L32, L31, L30, L29, L28, L27, L26, L25, L24, L23, L22, L21, L20, L19, L18, L17, L16, L15, L14, L13, L12, L11, L10, L9, L8, L7, L6, L5, L4, L3, L2, L1, L0]))) ∧
(((Go.Sx.L2.uDo 16).rel.pre [v6, v25, v16, v18, v20, v22, v24] [L27, L25, L29, L30, L31, L32, L33, L34, L35, L36, L37, L38, L39, L40, L41, L42, L43, L44] ∧
(∀ v26 : Int, ∀ v27 : Int, ∀ v28 : Int, ∀ v29 : Int, ∀ v30 : Int, ∀ v31 : Int, ∀ L46 : List Int, ∀ L47 : List Int, ∀ L48 : List Int, ∀ L49 : List Int, ∀ L50 : List Int, ∀ L51 : List Int, ∀ L52 : List Int, ∀ L53 : List Int, ∀ L54 : List Int, ∀ L55 : List Int, ∀ L56 : List Int, ∀ L57 : List Int, ∀ L58 : List Int, ∀ L59 : List Int, ∀ L60 : List Int, ∀ L61 : List Int, ∀ L62 : List Int, (Go.Sx.L2.uDo 16).rel.post [v6, v25, v16, v18, v20, v22, v24] [L27, L25, L29, L30, L31, L32, L33, L34, L35, L36, L37, L38, L39, L40, L41, L42, L43, L44] [v26, v27, v28, v29, v30, v31] [L46, L47, L48, L49, L50, L51, L52, L53, L54, L55, L56, L57, L58, L59, L60, L61, L62] → (Go.Sx.L2.uaR 3 1).dn ⟨Q, [fun xs' ys' => I2 xs' ys' ∧ μ2 xs' ys' < μ2 [v11] [L27, L28, L29, L30, L31, L32, L33, L34, L35, L36, L37, L38, L39, L40, L41, L42, L43, L44, L45]]⟩ 32 [v31, v30, v29, v28, v27, v26, v25, v24, v23, v22, v21, v20, v19, v18, v17, v16, v15, v14, (1 : Int), (1 : Int), v11, v10, v9, v8, v7, v6, v5, v4, v3, v2, v1, v0] 63 [L62, L61, L60, L59, L58, L57, L56, L55, L54, L53, L52, L51, L50, L49, L48, L47, L46, L45, L44, L43, L42, L41, L40, L39, L38, L37, L36, L35, L34, L33, L32, L31, L30, L29, L28, L27, L26, L25, L24, L23, L22, L21, L20, L19, L18, L17, L16, L15, L14, L13, L12, L11, L10, L9, L8, L7, L6, L5, L4, L3, L2, L1, L0])) ∧
((Go.Sx.L2.uDo 16).rel.pre [v6, v25, v16, v18, v20, v22, v24] [L27, L25, L29, L30, L31, L32, L33, L34, L35, L36, L37, L38, L39, L40, L41, L42, L43, L44] ∧
(∀ v26 : Int, ∀ v27 : Int, ∀ v28 : Int, ∀ v29 : Int, ∀ v30 : Int, ∀ v31 : Int, ∀ L46 : List Int, ∀ L47 : List Int, ∀ L48 : List Int, ∀ L49 : List Int, ∀ L50 : List Int, ∀ L51 : List Int, ∀ L52 : List Int, ∀ L53 : List Int, ∀ L54 : List Int, ∀ L55 : List Int, ∀ L56 : List Int, ∀ L57 : List Int, ∀ L58 : List Int, ∀ L59 : List Int, ∀ L60 : List Int, ∀ L61 : List Int, ∀ L62 : List Int, (Go.Sx.L2.uDo 16).rel.post [v6, v25, v16, v18, v20, v22, v24] [L27, L25, L29, L30, L31, L32, L33, L34, L35, L36, L37, L38, L39, L40, L41, L42, L43, L44] [v26, v27, v28, v29, v30, v31] [L46, L47, L48, L49, L50, L51, L52, L53, L54, L55, L56, L57, L58, L59, L60, L61, L62] → (Go.Sx.L2.uaR 3 1).dn ⟨Q, [fun xs' ys' => I2 xs' ys' ∧ μ2 xs' ys' < μ2 [v11] [L27, L28, L29, L30, L31, L32, L33, L34, L35, L36, L37, L38, L39, L40, L41, L42, L43, L44, L45]]⟩ 32 [v31, v30, v29, v28, v27, v26, v25, v24, v23, v22, v21, v20, v19, v18, v17, v16, v15, v14, (1 : Int), (1 : Int), v11, v10, v9, v8, v7, v6, v5, v4, v3, v2, v1, v0] 63 [L62, L61, L60, L59, L58, L57, L56, L55, L54, L53, L52, L51, L50, L49, L48, L47, L46, L45, L44, L43, L42, L41, L40, L39, L38, L37, L36, L35, L34, L33, L32, L31, L30, L29, L28, L27, L26, L25, L24, L23, L22, L21, L20, L19, L18, L17, L16, L15, L14, L13, L12, L11, L10, L9, L8, L7, L6, L5, L4, L3, L2, L1, L0]))))) ∧
(((40 : Int) ≤ v11) → Q [] [])) ∧
((v3 ≤ v11) → Q [] []))) ∧
(v10 = 0 → (I1 [v9, (1 : Int)] [L25, L26] ∧ μ1 [v9, (1 : Int)] [L25, L26] < μ1 [v9, v10] [L25, L26])))) ∧
(v8 = 0 → ((v7 < v0) → ((v7 < (12 : Int)) → (v7 < v0) ∧ ∀ v11 : Int, v11 = v7 * (4 : Int) → (v11 < v2) ∧ ∀ v12 : Int, v12 = (L0).getD (v11).toNat 0 → ∀ v13 : Int, v13 = v11 + (1 : Int) → (v13 < v2) ∧ ∀ v14 : Int, v14 = (L0).getD (v13).toNat 0 → ∀ v15 : Int, v15 = v11 + (2 : Int) → (v15 < v2) ∧ ∀ v16 : Int, v16 = (L0).getD (v15).toNat 0 → ∀ v17 : Int, v17 = v11 + (3 : Int) → (v17 < v2) ∧ ∀ v18 : Int, v18 = (L0).getD (v17).toNat 0 → (Go.Sx.L2.bFill).rel.pre [v12, v14, v16, v18] [L22] ∧
(∀ v19 : Int, ∀ L24 : List Int, (Go.Sx.L2.bFill).rel.post [v12, v14, v16, v18] [L22] [v19] [L24] → (v7 < v0) ∧ (v11 < v2) ∧ (v13 < v2) ∧ (v15 < v2) ∧ (v17 < v2) ∧ (Go.Sx.L2.rFill).rel.pre [v12, v14, v16, v18] [L23] ∧
(∀ v20 : Int, ∀ L25 : List Int, (Go.Sx.L2.rFill).rel.post [v12, v14, v16, v18] [L23] [v20] [L25] → ∀ v21 : Int, v21 = v7 + (1 : Int) → (I0 [v21, (0 : Int)] [L24, L25] ∧ μ0 [v21, (0 : Int)] [L24, L25] < μ0 [v7, v8] [L22, L23])))) ∧
(((12 : Int) ≤ v7) → (I0 [v7, (1 : Int)] [L22, L23] ∧ μ0 [v7, (1 : Int)] [L22, L23] < μ0 [v7, v8] [L22, L23]))) ∧
((v0 ≤ v7) → (I0 [v7, (1 : Int)] [L22, L23] ∧ μ0 [v7, (1 : Int)] [L22, L23] < μ0 [v7, v8] [L22, L23]))))))))))) := by kernel_rfl
set_option maxHeartbeats 4000000 in
theorem userAll_holds_sns0 : (lawSpec L2.f_messuagelaw11_UserAll [.slc L2.ks4, .nil, .slc L2.ksAsk]).Holds Tryz.prog L2.ro := FSpec.holdsV (cfg := withS (L2.cfgB Tryz.prog) [L2.kind_ L2.f_messuageref2_Kind, L2.check_ L2.f_messuageref2_Check, L2.lets_ L2.f_messuageref2_Lets, L2.tNew, L2.tInsert, L2.bNew, L2.bFill, L2.bLines, L2.uDo 16, L2.rNew, L2.rFind, L2.rFill, L2.rFlush, L2.rWord, L2.rKNew, L2.mNew16]) [{ f := L2.f_messuagelaw11_UserAll, reg := 9, ints := [(14, 0, 12)], lists := [(8, [], some (-9223372036854775808, 9223372036854775807)), (11, [], some (-9223372036854775808, 9223372036854775807))], join := some 0 }, { f := L2.f_messuagelaw11_UserAll, reg := 14, ints := [(15, 0, 8)], lists := [(9, [], some (-9223372036854775808, 9223372036854775807)), (13, [], some (-9223372036854775808, 9223372036854775807))], join := some 2 }, { f := L2.f_messuagelaw11_UserAll, reg := 19, ints := [(16, 0, 40)], lists := [(8, [], some (-9223372036854775808, 9223372036854775807)), (11, [], some (-9223372036854775808, 9223372036854775807)), (10, [0, 0], some (0, 18446744073709551615)), (10, [0, 1], some (0, 18446744073709551615)), (10, [0, 2], some (0, 18446744073709551615)), (10, [0, 3], some (0, 18446744073709551615)), (10, [0, 4], some (0, 18446744073709551615)), (10, [0, 5], some (0, 18446744073709551615)), (10, [0, 6], some (0, 18446744073709551615)), (10, [0, 7], some (0, 18446744073709551615)), (10, [0, 8], some (0, 18446744073709551615)), (10, [0, 9], some (0, 18446744073709551615)), (10, [0, 10], some (0, 18446744073709551615)), (10, [0, 11], some (0, 18446744073709551615)), (10, [0, 12], some (0, 18446744073709551615)), (10, [0, 13], some (0, 18446744073709551615)), (10, [0, 14], some (0, 18446744073709551615)), (10, [0, 15], some (0, 18446744073709551615)), (12, [], some (-9223372036854775808, 18446744073709551615))] }, { f := L2.f_messuagelaw11_UserAll, reg := 48, ints := [(221, 0, 8)] }] 20 200 (withS_ok cfgB_ok ⟨rKind_holds, rCheck_holds, rLets_holds, tNew_holds, tInsert_holds, bNew_holds, bFill_holds, bLines_holds, uDoM16_holds, rNew_holds, rFind_holds, rFill_holds, rFlush_holds, rWord_holds, rKNew_holds, mNew16_holds, trivial⟩) mixed (t := UserAll_sns_t) UserAll_sns_tree (by
  show ∀ (v0 v1 v2 v3 v4 v5 : Int) (L0 L1 : List Int), _
  intro v0 v1 v2 v3 v4 v5 L0 L1 hp hr hl
  replace hr : ((0 : Int) ≤ v0 ∧ v0 ≤ (9223372036854775807 : Int)) ∧ ((0 : Int) ≤ v1 ∧ v1 ≤ (9223372036854775807 : Int)) ∧ ((0 : Int) ≤ v2 ∧ v2 ≤ (9223372036854775807 : Int) * ((4 : Nat) : Int)) ∧ ((0 : Int) ≤ v3 ∧ v3 ≤ (9223372036854775807 : Int)) ∧ ((0 : Int) ≤ v4 ∧ v4 ≤ (9223372036854775807 : Int)) ∧ ((0 : Int) ≤ v5 ∧ v5 ≤ (9223372036854775807 : Int) * ((6 : Nat) : Int)) ∧ True := hr
  replace hp : ((True ∧ ((0 : Int) ≤ v0 ∧ v0 ≤ v1 ∧ (L0.length : Int) = v0 * ((4 : Nat) : Int) ∧ ((4 : Nat) ≠ 1 → v2 = v0 * ((4 : Nat) : Int)) ∧ ∀ j, j < L0.length → ((oneKind L2.ks4).getD (j % (oneKind L2.ks4).length) (.i .i64)).lo ≤ L0.getD j 0 ∧ L0.getD j 0 ≤ ((oneKind L2.ks4).getD (j % (oneKind L2.ks4).length) (.i .i64)).hi)) ∧ ((0 : Int) ≤ v3 ∧ v3 ≤ v4 ∧ (L1.length : Int) = v3 * ((6 : Nat) : Int) ∧ ((6 : Nat) ≠ 1 → v5 = v3 * ((6 : Nat) : Int)) ∧ ∀ j, j < L1.length → ((oneKind L2.ksAsk).getD (j % (oneKind L2.ksAsk).length) (.i .i64)).lo ≤ L1.getD j 0 ∧ L1.getD j 0 ≤ ((oneKind L2.ksAsk).getD (j % (oneKind L2.ksAsk).length) (.i .i64)).hi)) := hp
  show UserAll_sns_t.dn ⟨_, []⟩ 6 [v5, v4, v3, v2, v1, v0] 2 [L1, L0]
  rw [UserAll_sns_vc]
  show ((L2.yes L2.f_messuagelaw11_begun).rel.pre [] [] ∧ _)
  refine ⟨trivial, fun _ => ?_⟩
  refine ⟨trivial, fun B0 hB0 => ⟨trivial, fun T0 hT0 => ⟨trivial, fun cap m0 m1 m2 m3 m4 m5 m6 m7 m8 m9 m10 m11 m12 m13 m14 m15 hM0 => ⟨trivial, fun W0 hW0 => ⟨trivial, fun K0 hK0 => ?_⟩⟩⟩⟩⟩
  have hB0' : B0 = clearB (List.replicate 41 0) := (List.cons.inj (show [B0] = [clearB (List.replicate 41 (0 : Int))] from hB0.2)).1
  have hT0' : T0 = List.replicate 24 0 := (List.cons.inj (show [T0] = [List.replicate 24 (0 : Int)] from hT0.2)).1
  have hW0' : W0 = [-1, 0, 0, 0, -1, 0, 0, 0, -1, 0, 0, 0, -1, 0, 0, 0, -1, 0, 0, 0, -1, 0, 0, 0, -1, 0, 0, 0, -1, 0, 0, 0, 0, 0, 0, 0, 0, 0, 0, 0, 0] := (List.cons.inj (show [W0] = [[-1, 0, 0, 0, -1, 0, 0, 0, -1, 0, 0, 0, -1, 0, 0, 0, -1, 0, 0, 0, -1, 0, 0, 0, -1, 0, 0, 0, -1, 0, 0, 0, 0, 0, 0, 0, 0, 0, 0, 0, 0]] from hW0.2)).1
  have hM : [m0, m1, m2, m3, m4, m5, m6, m7, m8, m9, m10, m11, m12, m13, m14, m15] = List.replicate 16 (List.replicate 16 (0 : Int)) := hM0
  have hK : K0 = 1 :: 4 :: 16 :: List.replicate 512 (0 : Int) := (List.cons.inj (show [K0] = [1 :: 4 :: 16 :: List.replicate 512 (0 : Int)] from hK0.2)).1
  have hMR : MR [m0, m1, m2, m3, m4, m5, m6, m7, m8, m9, m10, m11, m12, m13, m14, m15] K0 := ua_mr hM hK
  clear hB0 hT0 hW0 hM0 hK0 hM hK
  refine ⟨fun xs ys => match xs, ys with | [i, g], [B, W] => 0 ≤ i ∧ TB B W ∧ FB B | _, _ => False, fun xs _ => match xs with | [i, g] => 2 * (12 - i).toNat + (if g = 0 then 1 else 0) | _ => 0, ?_, ?_⟩ <;> dsimp only
  · rw [hB0', hW0']; exact ⟨by omega, TB.start, FB.start⟩
  · intro i g B W hI
    obtain ⟨i0, tb, fb⟩ := hI
    clear hB0' hW0'
    refine ⟨fun hg P0 eP => ?_, fun hg => ?_⟩
    · refine ⟨fun xs ys => match xs, ys with | [i, g], [T, P] => 0 ≤ i ∧ TV T ∧ P = T | _, _ => False, fun xs _ => match xs with | [i, g] => 2 * (8 - i).toNat + (if g = 0 then 1 else 0) | _ => 0, ?_, ?_⟩ <;> dsimp only
      · rw [hT0', eP]; exact ⟨by omega, TV.start, rfl⟩
      · intro j q T P hJ
        obtain ⟨j0, hT, hP⟩ := hJ
        subst hP
        clear hT0' eP
        refine ⟨fun hq => ?_, fun hq => ?_⟩
        · refine ⟨Go.Sx.L2.uaInv, Go.Sx.L2.uaMu v3, ?_, ?_⟩
          · exact (⟨by omega, tb, fb, hMR⟩ : (0 : Int) ≤ 0 ∧ UA B W [m0, m1, m2, m3, m4, m5, m6, m7, m8, m9, m10, m11, m12, m13, m14, m15] K0)
          · clear tb fb hMR
            intro n B W M0 M1 M2 M3 M4 M5 M6 M7 M8 M9 M10 M11 M12 M13 M14 M15 K hI2
            obtain ⟨n0, u⟩ : 0 ≤ n ∧ UA B W [M0, M1, M2, M3, M4, M5, M6, M7, M8, M9, M10, M11, M12, M13, M14, M15] K := hI2
            refine ⟨fun c => ⟨fun c' => ?_, fun _ => trivial⟩, fun _ => trivial⟩
            have hv : v5 = v3 * 6 := by have := hp.2.2.2.2.1 (by decide); omega
            have hlen : (L1.length : Int) = v3 * 6 := hp.2.2.2.1
            have hw := hp.2.2.2.2.2
            clear hp hr hl
            obtain ⟨n, rfl⟩ : ∃ m : Nat, n = m := ⟨n.toNat, by omega⟩
            refine ⟨c, fun a ea o1 f1 => ⟨by omega, fun a0 q0 o2 f2 => ⟨by omega, fun a1 q1 o3 f3 => ⟨by omega, fun a2 q2 o4 f4 => ⟨by omega, fun a3 q3 o5 f5 => ⟨by omega, fun a4 q4 => ⟨c, by omega, fun en qe => ?_⟩⟩⟩⟩⟩⟩⟩
            have n1 : 0 ≤ a1 := by
              have k := (hw (n * 6 + 2) (by omega)).1
              rw [show (n * 6 + 2) % (oneKind L2.ksAsk).length = 2 by show (n * 6 + 2) % 6 = 2; omega] at k
              rw [q1, show o2.toNat = n * 6 + 2 by omega]; exact k
            have n2 : 0 ≤ a2 := by
              have k := (hw (n * 6 + 3) (by omega)).1
              rw [show (n * 6 + 3) % (oneKind L2.ksAsk).length = 3 by show (n * 6 + 3) % 6 = 3; omega] at k
              rw [q2, show o3.toNat = n * 6 + 3 by omega]; exact k
            have m1 : a1 ≤ 18446744073709551615 := by
              have k := (hw (n * 6 + 2) (by omega)).2
              rw [show (n * 6 + 2) % (oneKind L2.ksAsk).length = 2 by show (n * 6 + 2) % 6 = 2; omega] at k
              rw [q1, show o2.toNat = n * 6 + 2 by omega]; exact k
            clear hw hlen q0 q1 q2 q3 q4 qe
            refine dupD ?_ (fun D => ⟨D.1, fun x1 x2 x3 x4 x5 x6 x7 x8 x9 x10 x11 x12 x13 x14 x15 x16 x17 x18 x19 x20 x21 x22 x23 h => ⟨D.2 x1 x2 x3 x4 x5 x6 x7 x8 x9 x10 x11 x12 x13 x14 x15 x16 x17 x18 x19 x20 x21 x22 x23 h, D.2 x1 x2 x3 x4 x5 x6 x7 x8 x9 x10 x11 x12 x13 x14 x15 x16 x17 x18 x19 x20 x21 x22 x23 h⟩⟩)
            refine ⟨fun j hj => (congrArg List.length drop2).trans (u.mr.len j hj), ?_⟩
            intro e v w0 w1 w2 w3 B' N0 N1 N2 N3 N4 N5 N6 N7 N8 N9 N10 N11 N12 N13 N14 N15 hD
            have d := udo16 hD
            clear hD
            exact Eq.mpr (UserAll_sns_R_vc ..) (Go.Sx.L2.uaBody_ok hv ea c n1 n2 m1 hT u d)
        · exact ⟨⟨j0, hT, rfl⟩, by (repeat' split) <;> omega⟩
    · have hv : v2 = v0 * 4 := by have := hp.1.2.2.2.2.1 (by decide); omega
      clear hp hr hl hT0'
      refine ⟨fun c => ⟨fun c2 => ⟨c, fun a ea => ⟨by omega, fun e ee b eb => ⟨by omega, fun p ep d ed => ⟨by omega, fun f ef h eh => ⟨by omega, fun r er => ⟨trivial, fun x B' hb => ⟨c, by omega, by omega, by omega, by omega, trivial, fun x2 W' hw y ey => ?_⟩⟩⟩⟩⟩⟩⟩, fun _ => ⟨⟨i0, tb, fb⟩, by (repeat' split) <;> omega⟩⟩, fun _ => ⟨⟨i0, tb, fb⟩, by (repeat' split) <;> omega⟩⟩
      have h1 : B' = fillB B e p f r := (List.cons.inj (show [B'] = [fillB B e p f r] from hb.2)).1
      have h2 : W' = fillR W e p f r := (List.cons.inj (show [W'] = [fillR W e p f r] from hw.2)).1
      subst h1 h2
      exact ⟨⟨by omega, tb.fill _ _ _ _, fb.fill tb.w _ _ _ _⟩, by (repeat' split) <;> omega⟩)
theorem userAll_holds_sns : ((lawSpec L2.f_messuagelaw11_UserAll [.slc L2.ks4, .nil, .slc L2.ksAsk]).withPre fun _ => True).Holds Tryz.prog L2.ro := holds_withPre _ userAll_holds_sns0
end Go.Proofs.YtbpilohnhhbbpaaGreatDoor
