/- A kernel of two environments and one frame, new. -/
import Derived.Test.YtpmgfdakljjlaaaGreatDoorL2P
namespace Go.Sx.L2
/-- as pKer, with one frame -/
abbrev pKer1 (b : Nat) (c d : At) (pt refs cap w : List Int) : List (Nat × Blk) :=
  [(b, .cells (cI [1, 2, 1] ++ [.ptr (b + 8) (.c 0), .slc (b + 1) (.c 0) (.c 2) c, .ptr (b + 4) (.c 0), .ptr (b + 6) (.c 0)]) (.c 7) t_plain_Kernel),
   (b + 1, .cells [.ptr (b + 2) (.c 0), .ptr (b + 3) (.c 0)] c t_p_table_Table), (b + 2, .cells (cI pt) (.c 24) t_table_Table), (b + 3, .cells (zI 24) (.c 24) t_table_Table),
   (b + 4, .cells [.slc (b + 5) (.c 0) (.c 1) (.c 1)] (.c 1) t_pool_Pool), (b + 5, .cells (cI refs) (.c 1) t_int),
   (b + 6, .cells [.slc (b + 7) (.c 0) (.c 2) (.c 2)] (.c 1) t_caps_Tree), (b + 7, .cells (cI cap) (.c 64) t_caps8),
   (b + 8, .cells [.slc (b + 9) (.c 0) (.c 1) d] (.c 1) t_mem_Mem), (b + 9, .cells [.slc (b + 10) (.c 0) (.c 16) (.c 16)] d t_u64s), (b + 10, .cells (cU w) (.c 16) t_u64)]
/-- plain.New(1, 2, 1) -/
abbrev pNew1 : FSpec := { f := f_plain_New, ni := 0, nl := 0, nb := 0, args := [.agg (cI [1, 2, 1])], hp := [], ri := 2, rb := 11, res := .ptr 0 (.c 0), hp' := pKer1 0 (.v 0) (.v 1) z24 [0] z64 z16, orng := [rm 0 2, rm 1 1], rel := yes_ }
end Go.Sx.L2
