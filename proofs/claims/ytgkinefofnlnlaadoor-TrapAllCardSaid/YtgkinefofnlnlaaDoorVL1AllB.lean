/- The runs of messuagelaw1.TrapAll with the codes 5 to 8. -/
import Derived.Test.YtgkinefofnlnlaaDoorVL1AllT
set_option linter.unusedVariables false
open Go Go.Sx
namespace Go.Proofs.YtgkinefofnlnlaaDoor
open Go.ChangeShapes Go.WideShapes Go.RowKit
set_option maxRecDepth 100000
theorem all_tree_0_5 : ((lawSpec 3 [.one (.i .i64), .one (.i .i64), .slc [.i .i64], .agg k5]).withRng 2 0 4).exe Tryd.prog (L1.cfgFK Tryd.prog [(0, 5)]) [] 20 200 = allTree0 5 := by kernel_rfl
theorem all_tree_1_5 : ((lawSpec 3 [.one (.i .i64), .one (.i .i64), .slc [.i .i64], .agg k5]).withRng 2 5 7).exe Tryd.prog (L1.cfgFK Tryd.prog [(0, 5)]) [] 20 200 = allTree1 5 := by kernel_rfl
theorem all_tree_2_5 : ((lawSpec 3 [.one (.i .i64), .one (.i .i64), .slc [.i .i64], .agg k5]).withRng 2 8 9).exe Tryd.prog (L1.cfgFK Tryd.prog [(0, 5)]) [] 20 200 = allTree2 5 := by kernel_rfl
theorem all_tree_3_5 : ((lawSpec 3 [.one (.i .i64), .one (.i .i64), .slc [.i .i64], .agg k5]).withRng 2 10 9223372036854775807).exe Tryd.prog (L1.cfgFK Tryd.prog [(0, 5)]) [] 20 200 = allTree3 5 := by kernel_rfl
theorem all_tree_n_5 : (lawSpec 3 [.one (.i .i64), .one (.i .i64), .nil, .agg k5]).exe Tryd.prog (L1.cfgFK Tryd.prog [(0, 5)]) [] 20 200 = allTreeN 5 := by kernel_rfl
theorem all_tree_0_6 : ((lawSpec 3 [.one (.i .i64), .one (.i .i64), .slc [.i .i64], .agg k5]).withRng 2 0 4).exe Tryd.prog (L1.cfgFK Tryd.prog [(0, 6)]) [] 20 200 = allTree0 6 := by kernel_rfl
theorem all_tree_1_6 : ((lawSpec 3 [.one (.i .i64), .one (.i .i64), .slc [.i .i64], .agg k5]).withRng 2 5 7).exe Tryd.prog (L1.cfgFK Tryd.prog [(0, 6)]) [] 20 200 = allTree1 6 := by kernel_rfl
theorem all_tree_2_6 : ((lawSpec 3 [.one (.i .i64), .one (.i .i64), .slc [.i .i64], .agg k5]).withRng 2 8 9).exe Tryd.prog (L1.cfgFK Tryd.prog [(0, 6)]) [] 20 200 = allTree2 6 := by kernel_rfl
theorem all_tree_3_6 : ((lawSpec 3 [.one (.i .i64), .one (.i .i64), .slc [.i .i64], .agg k5]).withRng 2 10 9223372036854775807).exe Tryd.prog (L1.cfgFK Tryd.prog [(0, 6)]) [] 20 200 = allTree3 6 := by kernel_rfl
theorem all_tree_n_6 : (lawSpec 3 [.one (.i .i64), .one (.i .i64), .nil, .agg k5]).exe Tryd.prog (L1.cfgFK Tryd.prog [(0, 6)]) [] 20 200 = allTreeN 6 := by kernel_rfl
theorem all_tree_0_7 : ((lawSpec 3 [.one (.i .i64), .one (.i .i64), .slc [.i .i64], .agg k5]).withRng 2 0 4).exe Tryd.prog (L1.cfgFK Tryd.prog [(0, 7)]) [] 20 200 = allTree0 7 := by kernel_rfl
theorem all_tree_1_7 : ((lawSpec 3 [.one (.i .i64), .one (.i .i64), .slc [.i .i64], .agg k5]).withRng 2 5 7).exe Tryd.prog (L1.cfgFK Tryd.prog [(0, 7)]) [] 20 200 = allTree1 7 := by kernel_rfl
theorem all_tree_2_7 : ((lawSpec 3 [.one (.i .i64), .one (.i .i64), .slc [.i .i64], .agg k5]).withRng 2 8 9).exe Tryd.prog (L1.cfgFK Tryd.prog [(0, 7)]) [] 20 200 = allTree2 7 := by kernel_rfl
theorem all_tree_3_7 : ((lawSpec 3 [.one (.i .i64), .one (.i .i64), .slc [.i .i64], .agg k5]).withRng 2 10 9223372036854775807).exe Tryd.prog (L1.cfgFK Tryd.prog [(0, 7)]) [] 20 200 = allTree3 7 := by kernel_rfl
theorem all_tree_n_7 : (lawSpec 3 [.one (.i .i64), .one (.i .i64), .nil, .agg k5]).exe Tryd.prog (L1.cfgFK Tryd.prog [(0, 7)]) [] 20 200 = allTreeN 7 := by kernel_rfl
theorem all_tree_0_8 : ((lawSpec 3 [.one (.i .i64), .one (.i .i64), .slc [.i .i64], .agg k5]).withRng 2 0 4).exe Tryd.prog (L1.cfgFK Tryd.prog [(0, 8)]) [] 20 200 = allTree0 8 := by kernel_rfl
theorem all_tree_1_8 : ((lawSpec 3 [.one (.i .i64), .one (.i .i64), .slc [.i .i64], .agg k5]).withRng 2 5 7).exe Tryd.prog (L1.cfgFK Tryd.prog [(0, 8)]) [] 20 200 = allTree1 8 := by kernel_rfl
theorem all_tree_2_8 : ((lawSpec 3 [.one (.i .i64), .one (.i .i64), .slc [.i .i64], .agg k5]).withRng 2 8 9).exe Tryd.prog (L1.cfgFK Tryd.prog [(0, 8)]) [] 20 200 = allTree2 8 := by kernel_rfl
theorem all_tree_3_8 : ((lawSpec 3 [.one (.i .i64), .one (.i .i64), .slc [.i .i64], .agg k5]).withRng 2 10 9223372036854775807).exe Tryd.prog (L1.cfgFK Tryd.prog [(0, 8)]) [] 20 200 = allTree3 8 := by kernel_rfl
theorem all_tree_n_8 : (lawSpec 3 [.one (.i .i64), .one (.i .i64), .nil, .agg k5]).exe Tryd.prog (L1.cfgFK Tryd.prog [(0, 8)]) [] 20 200 = allTreeN 8 := by kernel_rfl
end Go.Proofs.YtgkinefofnlnlaaDoor
