/- Several contracts of one function: the first that fits is used; what is known of the arguments is put in. -/
import Derived.Test.YtbeeilndeglnhaaGreatDoorSxM7
set_option linter.unusedVariables false
namespace Go.Sx
def fixA (h : H) (a : At) : At := match h.fixed a with
  | some n => .c n
  | none => a
def fix1 (h : H) : SV → SV
  | .i k a => .i k (fixA h a)
  | x => x
def fixS (h : H) : SV → SV
  | .i k a => .i k (fixA h a)
  | .agg xs => .agg (xs.map (fix1 h))
  | x => x
theorem fixA_den {C : Ctx} {ρ : Env} {h : H} {w : World} (f : Facts C ρ h w) (a : At) : (fixA h a).den ρ.is = a.den ρ.is := by
  unfold fixA
  split
  · rename_i n e
    exact (fixed_ok f e).symm
  · rfl
theorem fixA_lt {h : H} {a : At} {n : Nat} (l : a.lt n = true) : (fixA h a).lt n = true := by
  unfold fixA
  split
  · rfl
  · exact l
theorem fix1_ok {h : H} {ni nb : Nat} {x : SV} (l : SV.ok ni nb x = true) : SV.ok ni nb (fix1 h x) = true := by
  cases x <;> simp only [fix1] <;> try exact l
  rename_i k a
  simp only [SV.ok] at *
  exact fixA_lt l
theorem fix1_den {C : Ctx} {ρ : Env} {h : H} {w : World} (f : Facts C ρ h w) (x : SV) : SV.den ρ (fix1 h x) = SV.den ρ x := by
  cases x <;> simp only [fix1]
  rename_i k a
  simp only [SV.den, fixA_den f a]
theorem fix1s_ok {h : H} {ni nb : Nat} : ∀ {xs : List SV}, SV.oks ni nb xs = true → SV.oks ni nb (xs.map (fix1 h)) = true
  | [], _ => rfl
  | x :: xs, l => by
    simp only [SV.oks, List.map_cons, Bool.and_eq_true] at *
    exact ⟨fix1_ok l.1, fix1s_ok l.2⟩
theorem fix1s_den {C : Ctx} {ρ : Env} {h : H} {w : World} (f : Facts C ρ h w) : ∀ (xs : List SV), SV.dens ρ (xs.map (fix1 h)) = SV.dens ρ xs
  | [] => rfl
  | x :: xs => by simp only [SV.dens, List.map_cons, fix1_den f x, fix1s_den f xs]
theorem fixS_ok {h : H} {ni nb : Nat} {x : SV} (l : SV.ok ni nb x = true) : SV.ok ni nb (fixS h x) = true := by
  cases x <;> simp only [fixS] <;> try exact l
  · rename_i k a
    simp only [SV.ok] at *
    exact fixA_lt l
  · rename_i xs
    rw [SV.ok] at *
    exact fix1s_ok l
theorem fixS_den {C : Ctx} {ρ : Env} {h : H} {w : World} (f : Facts C ρ h w) (x : SV) : SV.den ρ (fixS h x) = SV.den ρ x := by
  cases x <;> simp only [fixS]
  · rename_i k a
    simp only [SV.den, fixA_den f a]
  · rename_i xs
    simp only [SV.den, fix1s_den f xs]
theorem fixSs_ok {h : H} {ni nb : Nat} : ∀ {xs : List SV}, SV.oks ni nb xs = true → SV.oks ni nb (xs.map (fixS h)) = true
  | [], _ => rfl
  | x :: xs, l => by
    simp only [SV.oks, List.map_cons, Bool.and_eq_true] at *
    exact ⟨fixS_ok l.1, fixSs_ok l.2⟩
theorem fixSs_den {C : Ctx} {ρ : Env} {h : H} {w : World} (f : Facts C ρ h w) : ∀ (xs : List SV), SV.dens ρ (xs.map (fixS h)) = SV.dens ρ xs
  | [] => rfl
  | x :: xs => by simp only [SV.dens, List.map_cons, fixS_den f x, fixSs_den f xs]
def runAlt : List FSpec → List SV → M SV
  | [], _ => M.no 171
  | s :: l, args => fun h k => if s.fits args h (s.guess args h) then s.runL args h k else runAlt l args h k
def altSpec (f : FuncId) (l : List FSpec) : Spec := ⟨f, fun args h k => runAlt l (args.map (fixS h)) h k⟩
theorem runAlt_ok {P : Program} {ro : List (Addr × Value)} {f : FuncId} : ∀ {l : List FSpec}, (∀ s ∈ l, s.f = f) → HoldAll P ro l → (⟨f, runAlt l⟩ : Spec).Ok P ro
  | [], _, _ => fun Φ C ρ h w args k K hro hok r hd hk => hd.elim
  | s :: l, hf, H => by
    intro Φ C ρ h w args k K hro hok r hd hk
    simp only [runAlt] at hd
    split at hd
    · have := FSpec.spec_ok H.1 Φ C ρ h w args k K hro hok r hd hk
      have e : s.f = f := hf s (List.mem_cons_self ..)
      show Invokes P f (SV.dens ρ args).toArray w K
      rw [← e]
      exact this
    · exact runAlt_ok (f := f) (l := l) (fun t ht => hf t (List.mem_cons_of_mem _ ht)) H.2 Φ C ρ h w args k K hro hok r hd hk
theorem altSpec_ok {P : Program} {ro : List (Addr × Value)} {f : FuncId} {l : List FSpec} (hf : ∀ s ∈ l, s.f = f) (H : HoldAll P ro l) : (altSpec f l).Ok P ro := by
  intro Φ C ρ h w args k K hro hok r hd hk
  have fc := r.fact
  have := runAlt_ok hf H Φ C ρ h w (args.map (fixS h)) k K hro (fixSs_ok hok) r hd hk
  rw [fixSs_den fc] at this
  exact this
def withA (c : Cfg) (f : FuncId) (l : List FSpec) : Cfg := { c with specs := altSpec f l :: c.specs }
theorem withA_ok {P : Program} {c : Cfg} {f : FuncId} {l : List FSpec} (hc : c.Ok P) (hf : ∀ s ∈ l, s.f = f) (h : HoldAll P c.ro l) : (withA c f l).Ok P := by
  refine ⟨?_, hc.meths⟩
  intro s hs
  rcases List.mem_cons.1 hs with rfl | hs
  · exact altSpec_ok hf h
  · exact hc.specs s hs
/-- Indices of small range are split into cases. -/
def withC (c : Cfg) : Cfg := { c with conc := true }
theorem withC_ok {P : Program} {c : Cfg} (hc : c.Ok P) : (withC c).Ok P := ⟨hc.specs, hc.meths⟩
end Go.Sx
