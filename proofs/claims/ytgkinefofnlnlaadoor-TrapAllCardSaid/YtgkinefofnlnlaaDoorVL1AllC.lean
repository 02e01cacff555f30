/- The runs of messuagelaw1.TrapAll with the codes 9 to 11. -/
import Derived.Test.YtgkinefofnlnlaaDoorVL1AllT
set_option linter.unusedVariables false
open Go Go.Sx
namespace Go.Proofs.YtgkinefofnlnlaaDoor
open Go.ChangeShapes Go.WideShapes Go.RowKit
set_option maxRecDepth 100000
theorem all_tree_0_9 : ((lawSpec 3 [.one (.i .i64), .one (.i .i64), .slc [.i .i64], .agg k5]).withRng 2 0 4).exe Tryd.prog (L1.cfgFK Tryd.prog [(0, 9)]) [] 20 200 = allTree0 9 := by kernel_rfl
theorem all_tree_1_9 : ((lawSpec 3 [.one (.i .i64), .one (.i .i64), .slc [.i .i64], .agg k5]).withRng 2 5 7).exe Tryd.prog (L1.cfgFK Tryd.prog [(0, 9)]) [] 20 200 = allTree1 9 := by kernel_rfl
theorem all_tree_2_9 : ((lawSpec 3 [.one (.i .i64), .one (.i .i64), .slc [.i .i64], .agg k5]).withRng 2 8 9).exe Tryd.prog (L1.cfgFK Tryd.prog [(0, 9)]) [] 20 200 = allTree2 9 := by kernel_rfl
theorem all_tree_3_9 : ((lawSpec 3 [.one (.i .i64), .one (.i .i64), .slc [.i .i64], .agg k5]).withRng 2 10 9223372036854775807).exe Tryd.prog (L1.cfgFK Tryd.prog [(0, 9)]) [] 20 200 = allTree3 9 := by kernel_rfl
theorem all_tree_n_9 : (lawSpec 3 [.one (.i .i64), .one (.i .i64), .nil, .agg k5]).exe Tryd.prog (L1.cfgFK Tryd.prog [(0, 9)]) [] 20 200 = allTreeN 9 := by kernel_rfl
theorem all_tree_0_10 : ((lawSpec 3 [.one (.i .i64), .one (.i .i64), .slc [.i .i64], .agg k5]).withRng 2 0 4).exe Tryd.prog (L1.cfgFK Tryd.prog [(0, 10)]) [] 20 200 = allTree0 10 := by kernel_rfl
theorem all_tree_1_10 : ((lawSpec 3 [.one (.i .i64), .one (.i .i64), .slc [.i .i64], .agg k5]).withRng 2 5 7).exe Tryd.prog (L1.cfgFK Tryd.prog [(0, 10)]) [] 20 200 = allTree1 10 := by kernel_rfl
theorem all_tree_2_10 : ((lawSpec 3 [.one (.i .i64), .one (.i .i64), .slc [.i .i64], .agg k5]).withRng 2 8 9).exe Tryd.prog (L1.cfgFK Tryd.prog [(0, 10)]) [] 20 200 = allTree2 10 := by kernel_rfl
theorem all_tree_3_10 : ((lawSpec 3 [.one (.i .i64), .one (.i .i64), .slc [.i .i64], .agg k5]).withRng 2 10 9223372036854775807).exe Tryd.prog (L1.cfgFK Tryd.prog [(0, 10)]) [] 20 200 = allTree3 10 := by kernel_rfl
theorem all_tree_n_10 : (lawSpec 3 [.one (.i .i64), .one (.i .i64), .nil, .agg k5]).exe Tryd.prog (L1.cfgFK Tryd.prog [(0, 10)]) [] 20 200 = allTreeN 10 := by kernel_rfl
theorem all_tree_0_11 : ((lawSpec 3 [.one (.i .i64), .one (.i .i64), .slc [.i .i64], .agg k5]).withRng 2 0 4).exe Tryd.prog (L1.cfgFK Tryd.prog [(0, 11)]) [] 20 200 = allTree0 11 := by kernel_rfl
theorem all_tree_1_11 : ((lawSpec 3 [.one (.i .i64), .one (.i .i64), .slc [.i .i64], .agg k5]).withRng 2 5 7).exe Tryd.prog (L1.cfgFK Tryd.prog [(0, 11)]) [] 20 200 = allTree1 11 := by kernel_rfl
theorem all_tree_2_11 : ((lawSpec 3 [.one (.i .i64), .one (.i .i64), .slc [.i .i64], .agg k5]).withRng 2 8 9).exe Tryd.prog (L1.cfgFK Tryd.prog [(0, 11)]) [] 20 200 = allTree2 11 := by kernel_rfl
theorem all_tree_3_11 : ((lawSpec 3 [.one (.i .i64), .one (.i .i64), .slc [.i .i64], .agg k5]).withRng 2 10 9223372036854775807).exe Tryd.prog (L1.cfgFK Tryd.prog [(0, 11)]) [] 20 200 = allTree3 11 := by kernel_rfl
theorem all_tree_n_11 : (lawSpec 3 [.one (.i .i64), .one (.i .i64), .nil, .agg k5]).exe Tryd.prog (L1.cfgFK Tryd.prog [(0, 11)]) [] 20 200 = allTreeN 11 := by kernel_rfl
end Go.Proofs.YtgkinefofnlnlaaDoor
