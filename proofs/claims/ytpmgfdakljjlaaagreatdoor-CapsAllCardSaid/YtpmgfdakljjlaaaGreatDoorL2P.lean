/- Contracts of a kernel's functions at the states of messuagelaw11.begun: two environments, two frames. -/
import Derived.Test.YtpmgfdakljjlaaaGreatDoorL2Cfg
import Derived.Test.YtpmgfdakljjlaaaGreatDoorPuAlt
set_option linter.unusedVariables false
set_option linter.constructorNameAsVariable false
namespace Go.Sx.L2
abbrev zI (n : Nat) : List SV := List.replicate n (.i .i64 (.c 0))
abbrev zU (n : Nat) : List SV := List.replicate n (.i .u64 (.c 0))
abbrev cI (l : List Int) : List SV := l.map fun n => .i .i64 (.c n)
abbrev cU (l : List Int) : List SV := l.map fun n => .i .u64 (.c n)
/-- The memory of two frames: the Mem at block m, the frames' slices at m + 1, the frames at m + 2, m + 3; the room of the slices: c. -/
abbrev pMem (m : Nat) (c : At) (f0 : List Int) : List (Nat × Blk) :=
  [(m, .cells [.slc (m + 1) (.c 0) (.c 2) c] (.c 1) t_mem_Mem), (m + 1, .cells [.slc (m + 2) (.c 0) (.c 16) (.c 16), .slc (m + 3) (.c 0) (.c 16) (.c 16)] c t_u64s),
   (m + 2, .cells (cU f0) (.c 16) t_u64), (m + 3, .cells (zU 16) (.c 16) t_u64)]
/-- A kernel: at block b the Kernel, b + 1 the tables' slice (room c), b + 2, b + 3 the tables, b + 4, b + 5 the pool, b + 6, b + 7 the tree, b + 8.. the memory (room d). -/
abbrev pKer (b : Nat) (c d : At) (pt refs cap w : List Int) : List (Nat × Blk) :=
  [(b, .cells (cI [1, 2, 2] ++ [.ptr (b + 8) (.c 0), .slc (b + 1) (.c 0) (.c 2) c, .ptr (b + 4) (.c 0), .ptr (b + 6) (.c 0)]) (.c 7) t_plain_Kernel),
   (b + 1, .cells [.ptr (b + 2) (.c 0), .ptr (b + 3) (.c 0)] c t_p_table_Table), (b + 2, .cells (cI pt) (.c 24) t_table_Table), (b + 3, .cells (zI 24) (.c 24) t_table_Table),
   (b + 4, .cells [.slc (b + 5) (.c 0) (.c 2) (.c 2)] (.c 1) t_pool_Pool), (b + 5, .cells (cI refs) (.c 2) t_int),
   (b + 6, .cells [.slc (b + 7) (.c 0) (.c 2) (.c 2)] (.c 1) t_caps_Tree), (b + 7, .cells (cI cap) (.c 64) t_caps8)] ++ pMem (b + 8) d w
abbrev z16 : List Int := List.replicate 16 0
abbrev z24 : List Int := List.replicate 24 0
abbrev z64 : List Int := List.replicate 64 0
abbrev pt3 : List Int := [0, 0, 0, 0, 0, 0, 0, 1, 3, 0, 0, 0, 0, 0, 0, 0, 0, 0, 0, 0, 0, 0, 0, 0]
abbrev cap3 : List Int := [0, 0, 0, 0, 0, 3, -1, 0] ++ List.replicate 56 0
abbrev w3 : List Int := [0, 0, 0, 0, 0, 77, 0, 0, 0, 0, 0, 0, 0, 0, 0, 0]
abbrev yes_ : Rel := ⟨(fun _ _ => True), (fun _ _ _ _ => True)⟩
abbrev rm (i lo : Nat) : Nat × Int × Int := (i, lo, 9223372036854775807)
/-- mem.New(2) -/
abbrev mNew2 : FSpec := { f := f_mem_New, ni := 0, nl := 0, nb := 0, args := [.i .i64 (.c 2)], hp := [], ri := 1, rb := 4, res := .ptr 0 (.c 0), hp' := pMem 0 (.v 0) z16, orng := [rm 0 2], rel := yes_ }
/-- plain.New(1, 2, 2) -/
abbrev pNew2 : FSpec := { f := f_plain_New, ni := 0, nl := 0, nb := 0, args := [.agg (cI [1, 2, 2])], hp := [], ri := 2, rb := 12, res := .ptr 0 (.c 0), hp' := pKer 0 (.v 0) (.v 1) z24 [0, 0] z64 z16, orng := [rm 0 2, rm 1 2], rel := yes_ }
/-- a copy of the kernel with one frame, one page, one word -/
abbrev pCopy3 : FSpec := { f := f_plain_Kernel_Copy, ni := 2, nl := 0, nb := 12, args := [.ptr 0 (.c 0)], hp := pKer 0 (.v 0) (.v 1) pt3 [1, 0] cap3 w3, irng := [rm 0 2, rm 1 2], ri := 2, rb := 12, res := .ptr 12 (.c 0), hp' := pKer 0 (.v 0) (.v 1) pt3 [1, 0] cap3 w3 ++ pKer 12 (.v 2) (.v 3) pt3 [1, 0] cap3 w3, orng := [rm 0 2, rm 1 2, rm 2 2, rm 3 2], rel := yes_ }
/-- what the kernel tells of CUnmap of a page without an entry: ErrNone, as a Trap -/
abbrev pErr3 : FSpec := { f := f_plain_Kernel_Err, ni := 2, nl := 0, nb := 12, args := [.ptr 0 (.c 0), .i .i64 (.c 0), .agg (cU [7, 5, 0, 0, 0])], hp := pKer 0 (.v 0) (.v 1) pt3 [1, 0] cap3 w3, irng := [rm 0 2, rm 1 2], rb := 2, res := .iface t_pTrap (.ptr 12 (.c 0)), hp' := pKer 0 (.v 0) (.v 1) pt3 [1, 0] cap3 w3 ++ [(12, .cells ([.i .i64 (.c 3), .i .i64 (.c 0)] ++ cU [7, 5, 0, 0, 0] ++ [.iface t_pTrap (.ptr 13 (.c 0))]) (.c 8) t_trap_Trap), (13, .cells ([.i .i64 (.c 3), .i .i64 (.c (-1))] ++ cU [0, 0, 0, 0, 0] ++ [.raw .nilIface]) (.c 8) t_trap_Trap)], orng := [rm 0 2, rm 1 2], rel := yes_ }
/-! the four calls -/
abbrev pDoA : FSpec := { f := f_plain_Kernel_Do, ni := 2, nl := 0, nb := 12, args := [.ptr 0 (.c 0), .i .i64 (.c 0), .agg (cU [1, 1, 0, 0, 0])], hp := pKer 0 (.v 0) (.v 1) z24 [0, 0] z64 z16, irng := [rm 0 2, rm 1 2], res := .tup [.agg [.i .i64 (.c 0), .i .u64 (.c 0)], .b (.c 1)], hp' := pKer 0 (.v 0) (.v 1) z24 [1, 0] cap3 z16, orng := [rm 0 2, rm 1 2], rel := yes_ }
abbrev pDoB : FSpec := { f := f_plain_Kernel_Do, ni := 2, nl := 0, nb := 12, args := [.ptr 0 (.c 0), .i .i64 (.c 0), .agg (cU [6, 2, 1, 3, 0])], hp := pKer 0 (.v 0) (.v 1) z24 [1, 0] cap3 z16, irng := [rm 0 2, rm 1 2], res := .tup [.agg [.i .i64 (.c 0), .i .u64 (.c 0)], .b (.c 1)], hp' := pKer 0 (.v 0) (.v 1) pt3 [1, 0] cap3 z16, orng := [rm 0 2, rm 1 2], rel := yes_ }
abbrev pDoC : FSpec := { f := f_plain_Kernel_Do, ni := 2, nl := 0, nb := 12, args := [.ptr 0 (.c 0), .i .i64 (.c 0), .agg (cU [21, 2, 5, 77, 0])], hp := pKer 0 (.v 0) (.v 1) pt3 [1, 0] cap3 z16, irng := [rm 0 2, rm 1 2], res := .tup [.agg [.i .i64 (.c 0), .i .u64 (.c 0)], .b (.c 1)], hp' := pKer 0 (.v 0) (.v 1) pt3 [1, 0] cap3 w3, orng := [rm 0 2, rm 1 2], rel := yes_ }
abbrev pDoD : FSpec := { f := f_plain_Kernel_Do, ni := 2, nl := 0, nb := 12, args := [.ptr 0 (.c 0), .i .i64 (.c 0), .agg (cU [20, 2, 5, 0, 0])], hp := pKer 0 (.v 0) (.v 1) pt3 [1, 0] cap3 w3, irng := [rm 0 2, rm 1 2], res := .tup [.agg [.i .i64 (.c 0), .i .u64 (.c 77)], .b (.c 1)], hp' := pKer 0 (.v 0) (.v 1) pt3 [1, 0] cap3 w3, orng := [rm 0 2, rm 1 2], rel := yes_ }
/-- a load by a new buffer and a table with one entry -/
abbrev uDo1 : FSpec := { f := f_user_Do, ni := 1, nl := 0, nb := 6, args := [.ptr 0 (.c 0), .ptr 1 (.c 0), .ptr 2 (.c 0), .i .i64 (.c 0), .agg (cU [20, 2, 3, 0, 0])], hp := [(0, .cells (cI ([-1, 0, 0, 0, 0] ++ [-1, 0, 0, 0, 0] ++ [-1, 0, 0, 0, 0] ++ [-1, 0, 0, 0, 0] ++ [-1, 0, 0, 0, 0] ++ [-1, 0, 0, 0, 0] ++ [-1, 0, 0, 0, 0] ++ [-1, 0, 0, 0, 0] ++ [0])) (.c 41) t_tlb_Tlb), (1, .cells (cI [0, 0, 0, 0, 0, 0, 1, 1, 1, 0, 0, 0, 0, 0, 0, 0, 0, 0, 0, 0, 0, 0, 0, 0]) (.c 24) t_table_Table)] ++ pMem 2 (.v 0) z16, irng := [rm 0 2], res := .tup [.agg [.i .i64 (.c 0), .i .u64 (.c 0)], .agg (cI [0, 2, 1, 1])], hp' := [(0, .cells (cI ([-1, 0, 0, 0, 0] ++ [-1, 0, 0, 0, 0] ++ [-1, 0, 0, 0, 0] ++ [-1, 0, 0, 0, 0] ++ [0, 2, 1, 1, 1] ++ [-1, 0, 0, 0, 0] ++ [-1, 0, 0, 0, 0] ++ [-1, 0, 0, 0, 0] ++ [1])) (.c 41) t_tlb_Tlb), (1, .cells (cI [0, 0, 0, 0, 0, 0, 1, 1, 1, 0, 0, 0, 0, 0, 0, 0, 0, 0, 0, 0, 0, 0, 0, 0]) (.c 24) t_table_Table)] ++ pMem 2 (.v 0) z16, orng := [rm 0 2], rel := yes_ }
end Go.Sx.L2
