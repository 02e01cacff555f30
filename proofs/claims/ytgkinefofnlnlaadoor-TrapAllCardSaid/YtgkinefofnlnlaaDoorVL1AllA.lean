/- The runs of messuagelaw1.TrapAll with the codes 1 to 4. -/
import Derived.Test.YtgkinefofnlnlaaDoorVL1AllT
set_option linter.unusedVariables false
open Go Go.Sx
namespace Go.Proofs.YtgkinefofnlnlaaDoor
open Go.ChangeShapes Go.WideShapes Go.RowKit
set_option maxRecDepth 100000
theorem all_tree_0_1 : ((lawSpec 3 [.one (.i .i64), .one (.i .i64), .slc [.i .i64], .agg k5]).withRng 2 0 4).exe Tryd.prog (L1.cfgFK Tryd.prog [(0, 1)]) [] 20 200 = allTree0 1 := by kernel_rfl
theorem all_tree_1_1 : ((lawSpec 3 [.one (.i .i64), .one (.i .i64), .slc [.i .i64], .agg k5]).withRng 2 5 7).exe Tryd.prog (L1.cfgFK Tryd.prog [(0, 1)]) [] 20 200 = allTree1 1 := by kernel_rfl
theorem all_tree_2_1 : ((lawSpec 3 [.one (.i .i64), .one (.i .i64), .slc [.i .i64], .agg k5]).withRng 2 8 9).exe Tryd.prog (L1.cfgFK Tryd.prog [(0, 1)]) [] 20 200 = allTree2 1 := by kernel_rfl
theorem all_tree_3_1 : ((lawSpec 3 [.one (.i .i64), .one (.i .i64), .slc [.i .i64], .agg k5]).withRng 2 10 9223372036854775807).exe Tryd.prog (L1.cfgFK Tryd.prog [(0, 1)]) [] 20 200 = allTree3 1 := by kernel_rfl
theorem all_tree_n_1 : (lawSpec 3 [.one (.i .i64), .one (.i .i64), .nil, .agg k5]).exe Tryd.prog (L1.cfgFK Tryd.prog [(0, 1)]) [] 20 200 = allTreeN 1 := by kernel_rfl
theorem all_tree_0_2 : ((lawSpec 3 [.one (.i .i64), .one (.i .i64), .slc [.i .i64], .agg k5]).withRng 2 0 4).exe Tryd.prog (L1.cfgFK Tryd.prog [(0, 2)]) [] 20 200 = allTree0 2 := by kernel_rfl
theorem all_tree_1_2 : ((lawSpec 3 [.one (.i .i64), .one (.i .i64), .slc [.i .i64], .agg k5]).withRng 2 5 7).exe Tryd.prog (L1.cfgFK Tryd.prog [(0, 2)]) [] 20 200 = allTree1 2 := by kernel_rfl
theorem all_tree_2_2 : ((lawSpec 3 [.one (.i .i64), .one (.i .i64), .slc [.i .i64], .agg k5]).withRng 2 8 9).exe Tryd.prog (L1.cfgFK Tryd.prog [(0, 2)]) [] 20 200 = allTree2 2 := by kernel_rfl
theorem all_tree_3_2 : ((lawSpec 3 [.one (.i .i64), .one (.i .i64), .slc [.i .i64], .agg k5]).withRng 2 10 9223372036854775807).exe Tryd.prog (L1.cfgFK Tryd.prog [(0, 2)]) [] 20 200 = allTree3 2 := by kernel_rfl
theorem all_tree_n_2 : (lawSpec 3 [.one (.i .i64), .one (.i .i64), .nil, .agg k5]).exe Tryd.prog (L1.cfgFK Tryd.prog [(0, 2)]) [] 20 200 = allTreeN 2 := by kernel_rfl
theorem all_tree_0_3 : ((lawSpec 3 [.one (.i .i64), .one (.i .i64), .slc [.i .i64], .agg k5]).withRng 2 0 4).exe Tryd.prog (L1.cfgFK Tryd.prog [(0, 3)]) [] 20 200 = allTree0 3 := by kernel_rfl
theorem all_tree_1_3 : ((lawSpec 3 [.one (.i .i64), .one (.i .i64), .slc [.i .i64], .agg k5]).withRng 2 5 7).exe Tryd.prog (L1.cfgFK Tryd.prog [(0, 3)]) [] 20 200 = allTree1 3 := by kernel_rfl
theorem all_tree_2_3 : ((lawSpec 3 [.one (.i .i64), .one (.i .i64), .slc [.i .i64], .agg k5]).withRng 2 8 9).exe Tryd.prog (L1.cfgFK Tryd.prog [(0, 3)]) [] 20 200 = allTree2 3 := by kernel_rfl
theorem all_tree_3_3 : ((lawSpec 3 [.one (.i .i64), .one (.i .i64), .slc [.i .i64], .agg k5]).withRng 2 10 9223372036854775807).exe Tryd.prog (L1.cfgFK Tryd.prog [(0, 3)]) [] 20 200 = allTree3 3 := by kernel_rfl
theorem all_tree_n_3 : (lawSpec 3 [.one (.i .i64), .one (.i .i64), .nil, .agg k5]).exe Tryd.prog (L1.cfgFK Tryd.prog [(0, 3)]) [] 20 200 = allTreeN 3 := by kernel_rfl
theorem all_tree_0_4 : ((lawSpec 3 [.one (.i .i64), .one (.i .i64), .slc [.i .i64], .agg k5]).withRng 2 0 4).exe Tryd.prog (L1.cfgFK Tryd.prog [(0, 4)]) [] 20 200 = allTree0 4 := by kernel_rfl
theorem all_tree_1_4 : ((lawSpec 3 [.one (.i .i64), .one (.i .i64), .slc [.i .i64], .agg k5]).withRng 2 5 7).exe Tryd.prog (L1.cfgFK Tryd.prog [(0, 4)]) [] 20 200 = allTree1 4 := by kernel_rfl
theorem all_tree_2_4 : ((lawSpec 3 [.one (.i .i64), .one (.i .i64), .slc [.i .i64], .agg k5]).withRng 2 8 9).exe Tryd.prog (L1.cfgFK Tryd.prog [(0, 4)]) [] 20 200 = allTree2 4 := by kernel_rfl
theorem all_tree_3_4 : ((lawSpec 3 [.one (.i .i64), .one (.i .i64), .slc [.i .i64], .agg k5]).withRng 2 10 9223372036854775807).exe Tryd.prog (L1.cfgFK Tryd.prog [(0, 4)]) [] 20 200 = allTree3 4 := by kernel_rfl
theorem all_tree_n_4 : (lawSpec 3 [.one (.i .i64), .one (.i .i64), .nil, .agg k5]).exe Tryd.prog (L1.cfgFK Tryd.prog [(0, 4)]) [] 20 200 = allTreeN 4 := by kernel_rfl
end Go.Proofs.YtgkinefofnlnlaaDoor
