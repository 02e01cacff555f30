/- Several contracts of one function: the first that fits is used; what is known of the arguments is put in. -/
import Derived.Test.YtpmgfdakljjlaaaGreatDoorSxM7
set_option linter.unusedVariables false
set_option linter.constructorNameAsVariable false
namespace Go.Sx
def fixA (h : H) (a : At) : At := match h.fixed a with
  | some n => .c n
  | none => a
def fix1 (h : H) : SV → SV
  | .i k a => .i k (fixA h a)
  | x => x
def fixS (h : H) : SV → SV
  | .i k a => .i k (fixA h a)
  | .agg xs => .agg (xs.map (fix1 h))
  | x => x
theorem fixA_den {C : Ctx} {ρ : Env} {h : H} {w : World} (f : Facts C ρ h w) (a : At) : (fixA h a).den ρ.is = a.den ρ.is := by
  unfold fixA
  split
  · rename_i n e
    exact (fixed_ok f e).symm
  · rfl
theorem fixA_lt {h : H} {a : At} {n : Nat} (l : a.lt n = true) : (fixA h a).lt n = true := by
  unfold fixA
  split
  · rfl
  · exact l
theorem fix1_ok {h : H} {ni nb : Nat} {x : SV} (l : SV.ok ni nb x = true) : SV.ok ni nb (fix1 h x) = true := by
  cases x <;> simp only [fix1] <;> try exact l
  rename_i k a
  simp only [SV.ok] at *
  exact fixA_lt l
theorem fix1_den {C : Ctx} {ρ : Env} {h : H} {w : World} (f : Facts C ρ h w) (x : SV) : SV.den ρ (fix1 h x) = SV.den ρ x := by
  cases x <;> simp only [fix1]
  rename_i k a
  simp only [SV.den, fixA_den f a]
theorem fix1s_ok {h : H} {ni nb : Nat} : ∀ {xs : List SV}, SV.oks ni nb xs = true → SV.oks ni nb (xs.map (fix1 h)) = true
  | [], _ => rfl
  | x :: xs, l => by
    simp only [SV.oks, List.map_cons, Bool.and_eq_true] at *
    exact ⟨fix1_ok l.1, fix1s_ok l.2⟩
theorem fix1s_den {C : Ctx} {ρ : Env} {h : H} {w : World} (f : Facts C ρ h w) : ∀ (xs : List SV), SV.dens ρ (xs.map (fix1 h)) = SV.dens ρ xs
  | [] => rfl
  | x :: xs => by simp only [SV.dens, List.map_cons, fix1_den f x, fix1s_den f xs]
theorem fixS_ok {h : H} {ni nb : Nat} {x : SV} (l : SV.ok ni nb x = true) : SV.ok ni nb (fixS h x) = true := by
  cases x <;> simp only [fixS] <;> try exact l
  · rename_i k a
    simp only [SV.ok] at *
    exact fixA_lt l
  · rename_i xs
    rw [SV.ok] at *
    exact fix1s_ok l
theorem fixS_den {C : Ctx} {ρ : Env} {h : H} {w : World} (f : Facts C ρ h w) (x : SV) : SV.den ρ (fixS h x) = SV.den ρ x := by
  cases x <;> simp only [fixS]
  · rename_i k a
    simp only [SV.den, fixA_den f a]
  · rename_i xs
    simp only [SV.den, fix1s_den f xs]
theorem fixSs_ok {h : H} {ni nb : Nat} : ∀ {xs : List SV}, SV.oks ni nb xs = true → SV.oks ni nb (xs.map (fixS h)) = true
  | [], _ => rfl
  | x :: xs, l => by
    simp only [SV.oks, List.map_cons, Bool.and_eq_true] at *
    exact ⟨fixS_ok l.1, fixSs_ok l.2⟩
theorem fixSs_den {C : Ctx} {ρ : Env} {h : H} {w : World} (f : Facts C ρ h w) : ∀ (xs : List SV), SV.dens ρ (xs.map (fixS h)) = SV.dens ρ xs
  | [] => rfl
  | x :: xs => by simp only [SV.dens, List.map_cons, fixS_den f x, fixSs_den f xs]
/-- May a contract fit, once cells that it wants as an array are one? -/
def blkLike (a b : Blk) : Bool := match a, b with
  | .arr .., .cells .. => true
  | _, _ => blkEq a b
def FSpec.fitsA (s : FSpec) (args : List SV) (h : H) (θ : Sub) : Bool :=
  svsEq (SV.insts θ s.args) args && s.irng.all (fun r => match θ.is.getD r.1 (.c r.2.1) with | .c n => decide (r.2.1 ≤ n) && decide (n ≤ r.2.2) | _ => true) && s.hp.all (fun e => match h.blk (θ.bs.getD e.1 0) with | some b => blkLike (e.2.inst θ) b | none => false)
def may1 : SV → SV → Bool
  | .i _ (.c a), .i _ (.c b) => decide (a = b)
  | _, _ => true
def mays : List SV → List SV → Bool
  | x :: xs, y :: ys => may1 x y && mays xs ys
  | _, _ => true
/-- A quick look: may the arguments fit? -/
def mayFit : List SV → List SV → Bool
  | .agg xs :: r, .agg ys :: q => mays xs ys && mayFit r q
  | x :: r, y :: q => may1 x y && mayFit r q
  | _, _ => true
def runAlt : List FSpec → List SV → M SV
  | [], _ => M.no 171
  | s :: l, args => fun h k => if mayFit s.args args && s.fitsA args h (s.guess args h) then s.runL args h k else runAlt l args h k
def anyFits (l : List FSpec) (args : List SV) (h : H) : Bool := l.any fun s => mayFit s.args args && s.fitsA args h (s.guess args h)
def concL : List SV → M Unit
  | [] => fun h k => k () h
  | x :: xs => fun h k => concI (some x) h fun _ h1 => concL xs h1 k
/-- Numbers of small range among the arguments: which are they? -/
def concA1 : SV → M Unit
  | .agg ys => concL ys
  | x => concI (some x)
def concArgs : List SV → M Unit
  | [] => fun h k => k () h
  | x :: xs => fun h k => concA1 x h fun _ h1 => concArgs xs h1 k
def altSpec (f : FuncId) (l : List FSpec) : Spec := ⟨f, fun args h k =>
  if anyFits l (args.map (fixS h)) h then runAlt l (args.map (fixS h)) h k
  else concArgs args h fun _ h1 => runAlt l (args.map (fixS h1)) h1 k⟩
section
variable {Φ : Phi} {C : Ctx} {ρ : Env} {h : H} {w : World}
theorem concI_spec {x : SV} (hx : SV.ok ρ.is.length ρ.bs.length x = true) : MSpec Φ C (concI (some x)) ρ h w fun _ ρ' h' w' => w' = w := by
  have same : MSpec Φ C (fun h k => k () h : M Unit) ρ h w fun _ ρ' h' w' => w' = w := fun r k hk => ⟨(), ρ, h, w, Env.le_refl ρ, r, hk, rfl⟩
  intro r k hk
  unfold concI at hk
  split at hk
  · rename_i kd b eb
    cases eb
    have hb : AtIs ρ b (b.den ρ.is) := ⟨by simpa only [SV.ok] using hx, rfl⟩
    split at hk
    · split at hk
      · obtain ⟨n, ρ1, h1, w1, l1, r1, d1, e1, _, _⟩ := splitAt_spec (Φ := Φ) (C := C) (w := w) hb r _ hk
        exact ⟨(), ρ1, h1, w1, l1, r1, d1, e1⟩
      · exact same r k hk
    · exact same r k hk
  · exact same r k hk
theorem concL_spec : ∀ {xs : List SV} {ρ : Env} {h : H} {w : World}, SV.oks ρ.is.length ρ.bs.length xs = true → MSpec Φ C (concL xs) ρ h w fun _ ρ' h' w' => w' = w
  | [], ρ, h, w, _ => fun r k hk => ⟨(), ρ, h, w, Env.le_refl ρ, r, hk, rfl⟩
  | x :: xs, ρ, h, w, hx => by
    intro r k hk
    simp only [SV.oks, Bool.and_eq_true] at hx
    simp only [concL] at hk
    obtain ⟨_, ρ1, h1, w1, l1, r1, d1, e1⟩ := concI_spec (Φ := Φ) (C := C) (w := w) hx.1 r _ hk
    subst e1
    obtain ⟨_, ρ2, h2, w2, l2, r2, d2, e2⟩ := concL_spec (xs := xs) (SV.oks_mono (Env.le_len l1).1 (Env.le_len l1).2.2 _ hx.2) r1 _ d1
    exact ⟨(), ρ2, h2, w2, Env.le_trans l1 l2, r2, d2, e2⟩
theorem concA1_spec {x : SV} (hx : SV.ok ρ.is.length ρ.bs.length x = true) : MSpec Φ C (concA1 x) ρ h w fun _ ρ' h' w' => w' = w := by
  cases x
  case agg ys => exact concL_spec (xs := ys) (by simpa only [SV.ok] using hx)
  all_goals exact concI_spec hx
theorem concArgs_spec : ∀ {xs : List SV} {ρ : Env} {h : H} {w : World}, SV.oks ρ.is.length ρ.bs.length xs = true → MSpec Φ C (concArgs xs) ρ h w fun _ ρ' h' w' => w' = w
  | [], ρ, h, w, _ => fun r k hk => ⟨(), ρ, h, w, Env.le_refl ρ, r, hk, rfl⟩
  | x :: xs, ρ, h, w, hx => by
    intro r k hk
    simp only [SV.oks, Bool.and_eq_true] at hx
    simp only [concArgs] at hk
    obtain ⟨_, ρ1, h1, w1, l1, r1, d1, e1⟩ := concA1_spec (Φ := Φ) (C := C) (w := w) hx.1 r _ hk
    subst e1
    obtain ⟨_, ρ2, h2, w2, l2, r2, d2, e2⟩ := concArgs_spec (xs := xs) (SV.oks_mono (Env.le_len l1).1 (Env.le_len l1).2.2 _ hx.2) r1 _ d1
    exact ⟨(), ρ2, h2, w2, Env.le_trans l1 l2, r2, d2, e2⟩
end
theorem runAlt_ok {P : Program} {ro : List (Addr × Value)} {f : FuncId} : ∀ {l : List FSpec}, (∀ s ∈ l, s.f = f) → HoldAll P ro l → (⟨f, runAlt l⟩ : Spec).Ok P ro
  | [], _, _ => fun Φ C ρ h w args k K hro hok r hd hk => hd.elim
  | s :: l, hf, H => by
    intro Φ C ρ h w args k K hro hok r hd hk
    simp only [runAlt] at hd
    split at hd
    · have := FSpec.spec_ok H.1 Φ C ρ h w args k K hro hok r hd hk
      have e : s.f = f := hf s (List.mem_cons_self ..)
      show Invokes P f (SV.dens ρ args).toArray w K
      rw [← e]
      exact this
    · exact runAlt_ok (f := f) (l := l) (fun t ht => hf t (List.mem_cons_of_mem _ ht)) H.2 Φ C ρ h w args k K hro hok r hd hk
theorem altSpec_ok {P : Program} {ro : List (Addr × Value)} {f : FuncId} {l : List FSpec} (hf : ∀ s ∈ l, s.f = f) (H : HoldAll P ro l) : (altSpec f l).Ok P ro := by
  intro Φ C ρ h w args k K hro hok r hd hk
  have hd : (if anyFits l (args.map (fixS h)) h then runAlt l (args.map (fixS h)) h k else concArgs args h fun _ h1 => runAlt l (args.map (fixS h1)) h1 k).den Φ ρ.is ρ.ls := hd
  split at hd
  · have fc := r.fact
    have := runAlt_ok hf H Φ C ρ h w (args.map (fixS h)) k K hro (fixSs_ok hok) r hd hk
    rw [fixSs_den fc] at this
    exact this
  · obtain ⟨_, ρ1, h1, w1, l1, r1, d1, e1⟩ := concArgs_spec (Φ := Φ) (C := C) (w := w) hok r _ hd
    subst e1
    have fc := r1.fact
    have ho1 : SV.oks ρ1.is.length ρ1.bs.length args = true := SV.oks_mono (Env.le_len l1).1 (Env.le_len l1).2.2 _ hok
    have := runAlt_ok hf H Φ C ρ1 h1 w1 (args.map (fixS h1)) k K hro (fixSs_ok ho1) r1 d1 fun sv ρ' h' v w' l => hk sv ρ' h' v w' (Env.le_trans l1 l)
    rw [fixSs_den fc] at this
    have e : SV.dens ρ1 args = SV.dens ρ args := by
      obtain ⟨τ, rfl⟩ := l1
      exact SV.dens_app _ hok
    rw [e] at this
    exact this
def withA (c : Cfg) (f : FuncId) (l : List FSpec) : Cfg := { c with specs := altSpec f l :: c.specs }
theorem withA_ok {P : Program} {c : Cfg} {f : FuncId} {l : List FSpec} (hc : c.Ok P) (hf : ∀ s ∈ l, s.f = f) (h : HoldAll P c.ro l) : (withA c f l).Ok P := by
  refine ⟨?_, hc.meths⟩
  intro s hs
  rcases List.mem_cons.1 hs with rfl | hs
  · exact altSpec_ok hf h
  · exact hc.specs s hs
/-- Indices of small range are split into cases. -/
def withC (c : Cfg) : Cfg := { c with conc := true }
theorem withC_ok {P : Program} {c : Cfg} (hc : c.Ok P) : (withC c).Ok P := ⟨hc.specs, hc.meths⟩
end Go.Sx
