/- The numbers of the seat's dump, and what is called by contract. -/
import Derived.Test.YtpmgfdakljjlaaaGreatDoorL2Nums
import Derived.Test.YtpmgfdakljjlaaaGreatDoorSxM7
namespace Go.Sx.L2
def rd : RD where
  fTypeOf := f_reflectlite_TypeOf
  fValueOf := f_reflectlite_ValueOf
  fVType := f_reflectlite_Value_Type
  fIsNil := f_reflectlite_Value_IsNil
  fVElem := f_reflectlite_Value_Elem
  fSet := f_reflectlite_Value_Set
  R := t_reflectlite_rtype
  G := 4
  ptrs := [t_pTrap, t_ppTrap]
  pptrs := [(t_ppTrap, t_pTrap)]
  sets := [t_pTrap]
  rows := [⟨f_reflectlite_rtype_Comparable, [.a t_pTrap], .b true⟩,
    ⟨f_abi_Type_Kind, [.h t_ppTrap], .k 22⟩, ⟨f_abi_Type_Kind, [.h t_pTrap], .k 22⟩, ⟨f_reflectlite_rtype_Elem, [.a t_ppTrap], .i t_pTrap⟩, ⟨f_reflectlite_rtype_Implements, [.a t_pTrap, .i t_error], .b true⟩,
    ⟨f_reflectlite_rtype_AssignableTo, [.a t_pTrap, .i t_pTrap], .b true⟩]
def ro : List (Addr × Value) := [(⟨0, 0, none⟩, .iface t_reflectlite_rtype (.agg #[.pointer (some ⟨4, t_error, none⟩)]))]
def meths : List (TypeId × String × FuncId × Bool) := [
  (t_reflectlite_rtype, "Comparable", f_reflectlite_rtype_Comparable, false), (t_reflectlite_rtype, "Kind", f_abi_Type_Kind, true), (t_reflectlite_rtype, "Elem", f_reflectlite_rtype_Elem, false), (t_reflectlite_rtype, "Implements", f_reflectlite_rtype_Implements, false), (t_reflectlite_rtype, "AssignableTo", f_reflectlite_rtype_AssignableTo, false),
  (t_pTrap, "Error", f_trap_Trap_Error, false), (t_pTrap, "Unwrap", f_trap_Trap_Unwrap, false), (t_pTrap, "Is", f_trap_Trap_Is, false)]
def cfg (P : Program) : Cfg := { ro := ro, meths := meths, specs := rd.specs P ro }
/-- A function without arguments that returns true. -/
def yes (f : FuncId) : FSpec where
  f := f
  ni := 0
  nl := 0
  nb := 0
  args := []
  hp := []
  res := .b (.c 1)
  hp' := []
  rel := ⟨(fun _ _ => True), (fun _ _ _ _ => True)⟩
def cfg1 (P : Program) : Cfg := { cfg P with specs := [(yes f_messuagelaw1_begun).spec] ++ (cfg P).specs }
/-- With both beguns. -/
def cfg2 (P : Program) : Cfg := { cfg P with specs := [(yes f_messuagelaw2_begun).spec] ++ (cfg P).specs }
/-- With the law's begun. -/
def cfgB (P : Program) : Cfg := { cfg P with specs := [(yes f_messuagelaw11_begun).spec] ++ (cfg P).specs }
abbrev i64 : CK := .i .i64
abbrev u64 : CK := .i .u64
abbrev call5 : Par := .agg [u64, u64, u64, u64, u64]
end Go.Sx.L2
