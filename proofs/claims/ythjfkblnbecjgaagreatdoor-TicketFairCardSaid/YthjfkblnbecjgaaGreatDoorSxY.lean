/- The executor as it is used: drawn regions in every order, loops by their annotations or unrolled. -/
import Derived.Test.YthjfkblnbecjgaaGreatDoorSxX
set_option linter.unusedVariables false
namespace Go.Sx

def mkMore (P : Program) (cfg : Cfg) (anns : List LoopAnn) : More P cfg where
  draw := fun ex fid id ops sl h k => drawRegion P cfg ex ops sl h k
  loop := fun ex fid b => (anns.find? fun an => an.f == fid && firstReg b == some an.reg).map fun an => loopAnn an ex fid b
theorem mkMore_ok {P : Program} {cfg : Cfg} {anns : List LoopAnn} (hcfg : cfg.Ok P) (hmix : P.follows .mixedOrders = true) : ∀ C, RoOk C cfg.ro → (mkMore P cfg anns).Ok P cfg C := by
  intro C hro
  refine ⟨?_, ?_⟩
  · intro ex hex Φ fid id ops sl h k Q ρ a w rs r hd hk
    exact drawRegion_sound hex hcfg hro hmix rs r hd hk
  · intro ex hex Φ fid b f hf sl h k Q ρ a w rs r hd hk
    simp only [mkMore] at hf
    cases hfi : anns.find? fun an => an.f == fid && firstReg b == some an.reg with
    | none => rw [hfi] at hf; cases hf
    | some an =>
      rw [hfi] at hf
      simp only [Option.map_some, Option.some.injEq] at hf
      subst hf
      exact loopAnn_sound hex rs r hd hk

def FSpec.exe (s : FSpec) (P : Program) (cfg : Cfg) (anns : List LoopAnn) (rounds fuel : Nat) : Tree := s.tree P cfg (mkMore P cfg anns) rounds fuel
theorem FSpec.holds {P : Program} {cfg : Cfg} (anns : List LoopAnn) (rounds fuel : Nat) {s : FSpec} (hcfg : cfg.Ok P) (hmix : P.follows .mixedOrders = true)
    (hT : ∀ (is : List Int) (ls : List (List Int)), is.length = s.ni → ls.length = s.nl → s.rel.pre is ls → (∀ r ∈ s.irng, r.2.1 ≤ is.getD r.1 0 ∧ is.getD r.1 0 ≤ r.2.2) → (∀ r ∈ s.ilrng, ∀ x ∈ ls.getD r.1 [], r.2.1 ≤ x ∧ x ≤ r.2.2) →
      (s.exe P cfg anns rounds fuel).den ⟨s.rel.post is ls, []⟩ is ls) : s.Holds P cfg.ro :=
  FSpec.holds_of hcfg (mkMore_ok hcfg hmix) hT
end Go.Sx
