/- Several contracts of one function: the first that fits is used. -/
import Derived.Test.YtegeplgckfpleaaGreatDoorSxM7
set_option linter.unusedVariables false
namespace Go.Sx
def runAlt : List FSpec → List SV → M SV
  | [], _ => M.no 171
  | s :: l, args => fun h k => if s.fits args h (s.guess args h) then s.runL args h k else runAlt l args h k
def altSpec (f : FuncId) (l : List FSpec) : Spec := ⟨f, runAlt l⟩
theorem altSpec_ok {P : Program} {ro : List (Addr × Value)} {f : FuncId} : ∀ {l : List FSpec}, (∀ s ∈ l, s.f = f) → HoldAll P ro l → (altSpec f l).Ok P ro
  | [], _, _ => fun Φ C ρ h w args k K hro hok r hd hk => hd.elim
  | s :: l, hf, H => by
    intro Φ C ρ h w args k K hro hok r hd hk
    simp only [altSpec, runAlt] at hd
    split at hd
    · have := FSpec.spec_ok H.1 Φ C ρ h w args k K hro hok r hd hk
      rw [show (altSpec f (s :: l)).f = s.f from (hf s (List.mem_cons_self ..)).symm]
      exact this
    · exact altSpec_ok (f := f) (l := l) (fun t ht => hf t (List.mem_cons_of_mem _ ht)) H.2 Φ C ρ h w args k K hro hok r hd hk
def withA (c : Cfg) (f : FuncId) (l : List FSpec) : Cfg := { c with specs := altSpec f l :: c.specs }
theorem withA_ok {P : Program} {c : Cfg} {f : FuncId} {l : List FSpec} (hc : c.Ok P) (hf : ∀ s ∈ l, s.f = f) (h : HoldAll P c.ro l) : (withA c f l).Ok P := by
  refine ⟨?_, hc.meths⟩
  intro s hs
  rcases List.mem_cons.1 hs with rfl | hs
  · exact altSpec_ok hf h
  · exact hc.specs s hs
end Go.Sx
