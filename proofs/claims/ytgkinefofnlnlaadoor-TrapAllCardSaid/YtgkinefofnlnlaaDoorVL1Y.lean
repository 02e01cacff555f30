/- The contract of trap.First for a trap: it is given back. -/
import Derived.Test.YtgkinefofnlnlaaDoorVL1Z
set_option linter.unusedVariables false
open Go Go.Sx
namespace Go.Sx.L1
def first : FSpec where
  f := 16
  ni := 0
  nl := 0
  nb := 1
  args := [.iface 34 (.ptr 0 (.c 0))]
  hp := []
  res := .tup [.ptr 0 (.c 0), .b (.c 1)]
  hp' := []
  rel := ⟨(fun _ _ => True), (fun _ _ _ _ => True)⟩
/-- First of no error. -/
def first0 : FSpec where
  f := 16
  ni := 0
  nl := 0
  nb := 0
  args := [.raw .nilIface]
  hp := []
  res := .tup [.nilp, .b (.c 0)]
  hp' := []
  rel := ⟨(fun _ _ => True), (fun _ _ _ _ => True)⟩
/-- The first contract that fits. -/
def either (s : FSpec) (t : Spec) : Spec := ⟨s.f, fun args h k => if s.fits args h (s.guess args h) then s.run args h k else t.run args h k⟩
def cfgF (P : Program) : Cfg := { cfg P with specs := [begun.spec, code.spec, either first first0.spec] ++ (cfg P).specs }
def cfgFK (P : Program) (ks : List (Nat × Int)) : Cfg := { cfg P with specs := [begun.spec, ⟨12, codeRun ks⟩, either first first0.spec] ++ (cfg P).specs }
end Go.Sx.L1
namespace Go.Sx
/-- With one number's range narrowed. -/
def FSpec.withRng (s : FSpec) (i : Nat) (lo hi : Int) : FSpec := { s with irng := (i, lo, hi) :: s.irng }
/-- A contract, by the ranges of a number. -/
theorem holds_split {P : Program} {ro : List (Addr × Value)} {s : FSpec} (i : Nat) (hi : i < s.ni) (hs : ∀ x : Int, (∀ r ∈ s.irng, r.1 = i → r.2.1 ≤ x ∧ x ≤ r.2.2) → ∃ lo hi, lo ≤ x ∧ x ≤ hi ∧ (s.withRng i lo hi).Holds P ro) : s.Holds P ro := by
  intro w ρ hro rep hok hpre
  have f0 := rep.facts .nil
  rw [Env.app_nil] at f0
  obtain ⟨lo, hi', h1, h2, hh⟩ := hs (ρ.is.getD i 0) fun r hr e => by
    have := f0.rng r hr
    rw [e] at this
    exact this
  have hl : i < ρ.is.length := by rw [rep.ni]; exact hi
  have rep' : RepH ((s.withRng i lo hi').ctx ρ w ro) ρ (s.withRng i lo hi').H0 w := by
    refine ⟨rep.ni, rep.nl, rep.nb, fun σ => ?_, rep.frame⟩
    have f := rep.facts σ
    refine ⟨f.heap, f.nodup, fun r hr => ?_, f.defs, f.lrng⟩
    rcases List.mem_cons.1 hr with rfl | hr
    · rw [show (ρ.app σ).is.getD i 0 = ρ.is.getD i 0 from getD_app hl]
      exact ⟨h1, h2⟩
    · exact f.rng r hr
  have := hh w ρ hro rep' hok hpre
  refine this.mono ?_
  rintro v w' ⟨τ, hp⟩
  exact ⟨τ, ⟨hp.li, hp.ll, hp.lb, hp.rel, hp.val, hp.rep⟩⟩
end Go.Sx
namespace Go.Proofs.YtgkinefofnlnlaaDoor
set_option maxRecDepth 100000
theorem first_tree : L1.first.exe Tryd.prog (L1.cfg Tryd.prog) [] 20 200 = .done [] [] := by kernel_rfl
theorem first_holds : L1.first.Holds Tryd.prog L1.ro := FSpec.holds [] 20 200 cfg_ok mixed (by
  intro is ls h1 h2 hp hr hl
  rw [first_tree]
  trivial)
theorem first0_tree : L1.first0.exe Tryd.prog (L1.cfg Tryd.prog) [] 20 200 = .done [] [] := by kernel_rfl
theorem first0_holds : L1.first0.Holds Tryd.prog L1.ro := FSpec.holds [] 20 200 cfg_ok mixed (by
  intro is ls h1 h2 hp hr hl
  rw [first0_tree]
  trivial)
theorem either_ok {P : Program} {ro : List (Addr × Value)} {s : FSpec} {t : Sx.Spec} (hs : s.Holds P ro) (ht : t.Ok P ro) (hf : t.f = s.f) : (L1.either s t).Ok P ro := by
  intro Φ C ρ h w args k K hro hok r hd hk
  unfold L1.either at hd
  simp only at hd
  split at hd
  · exact FSpec.spec_ok hs Φ C ρ h w args k K hro hok r hd hk
  · have := ht Φ C ρ h w args k K hro hok r hd hk
    rw [hf] at this
    exact this
theorem cfgF_ok : (L1.cfgF Tryd.prog).Ok Tryd.prog := by
  refine ⟨?_, cfg_ok.meths⟩
  intro s hs
  rcases List.mem_append.1 hs with hs | hs
  · simp only [List.mem_cons, List.not_mem_nil, or_false] at hs
    rcases hs with rfl | rfl | rfl
    · exact FSpec.spec_ok begun_holds
    · exact FSpec.spec_ok code_holds
    · exact either_ok first_holds (FSpec.spec_ok first0_holds) rfl
  · exact cfg_ok.specs s hs
theorem cfgFK_ok (ks : List (Nat × Int)) : (L1.cfgFK Tryd.prog ks).Ok Tryd.prog := by
  refine ⟨?_, cfg_ok.meths⟩
  intro s hs
  rcases List.mem_append.1 hs with hs | hs
  · simp only [List.mem_cons, List.not_mem_nil, or_false] at hs
    rcases hs with rfl | rfl | rfl
    · exact FSpec.spec_ok begun_holds
    · exact spec_then (s := L1.code.spec) (FSpec.spec_ok code_holds) (f := L1.pin ks) fun Φ C ρ h w args sv v hv => pin_ok hv
    · exact either_ok first_holds (FSpec.spec_ok first0_holds) rfl
  · exact cfg_ok.specs s hs
theorem call_first {Φ : Phi} {t : Tree} {is : List Int} {lls : List (List Int)} : (Tree.call 16 L1.first.rel [] [] 0 0 t).den Φ is lls ↔ t.den Φ is lls := by
  simp only [Tree.den]
  constructor
  · intro h
    have := h.2 [] [] rfl rfl trivial
    simpa using this
  · intro h
    refine ⟨trivial, fun xs ys hx hy _ => ?_⟩
    obtain rfl := List.length_eq_zero_iff.1 hx
    obtain rfl := List.length_eq_zero_iff.1 hy
    simpa using h
theorem exe_withPre_rng (s : FSpec) (q : List Int → Prop) (i : Nat) (lo hi : Int) : ((s.withPre q).withRng i lo hi).exe = (s.withRng i lo hi).exe := rfl
end Go.Proofs.YtgkinefofnlnlaaDoor
