/- The library's slices.overlaps (the model's own): two slices in two blocks. -/
import Derived.Test.YtpmgfdakljjlaabGreatDoorSxM5
import Derived.Lib.Overlaps
set_option linter.unusedVariables false
set_option linter.constructorNameAsVariable false
namespace Go.Sx
def solidM (n : Nat) : M Unit := fun h k =>
  match h.blk n with
  | some (.cells _ _ _) => k () h
  | some (.arr _ _ _ sz _) => need .neq sz (.c 0) h fun _ h1 => k () h1
  | _ => .fail 521
def solidN (n : Nat) : M Unit := fun h k =>
  match h.blk n with
  | some (.arr _ _ _ sz _) => need .neq sz (.c 0) h fun _ h1 => k () h1
  | _ => .fail 522
def ovRun : List SV → M SV
  | [.slc n o l c, .slc m p l' c'] => if n = m then M.no 520 else do
      solidM n
      solidN m
      pure (.b (.c 0))
  | _ => M.no 523
def ovSpec (f : FuncId) : Spec := ⟨f, ovRun⟩
section
variable {Φ : Phi} {C : Ctx} {ρ : Env} {h : H} {w : World} {P : Program}
def InHp (ρ : Env) (h : H) (n : Nat) (w : World) : Prop := ∃ b, h.blk n = some b ∧ (ρ.b n).1 ∈ b.phys ρ n ∧ n < ρ.bs.length ∧ ∃ ca t, w.heap[(ρ.b n).1]? = some (.cells ca t (0, 0))
theorem solidM_spec {n : Nat} : MSpec Φ C (solidM n) ρ h w fun _ ρ' h' w' => w' = w ∧ h'.hp = h.hp ∧ ρ' = ρ ∧ InHp ρ h n w := by
  intro r k hk
  unfold solidM at hk
  split at hk
  · rename_i xs sz el eb
    have hb := r.fact.heap _ (blk_mem eb)
    obtain ⟨_, rest, hr, _⟩ := hb.holds
    exact ⟨(), ρ, h, w, Env.le_refl _, r, hk, rfl, rfl, rfl, _, eb, by simp [Blk.phys], hb.lt, _, _, hr⟩
  · rename_i ks l bl sz el eb
    have hb := r.fact.heap _ (blk_mem eb)
    have hin := hb.inB
    simp only [Blk.inB, Bool.and_eq_true, decide_eq_true_eq] at hin
    obtain ⟨_, ρ1, h1, w1, l1, r1, d1, e1, hp1, _, e2, c1⟩ := need_spec' (Φ := Φ) (C := C) (w := w) (op := .neq) (AtIs.mono (ρ := ρ) ⟨hin.2.2, rfl⟩ (Env.le_refl _)) (AtIs.c ρ 0) r _ hk
    subst e1
    subst e2
    simp only [cmpB, bne_iff_ne] at c1
    obtain ⟨_, rest, hr, _⟩ := hb.holds.2.2 c1
    exact ⟨(), ρ1, h1, w1, l1, r1, d1, rfl, hp1, rfl, _, eb, by simp [Blk.phys, c1], hb.lt, _, _, hr⟩
  · exact hk.elim
theorem solidN_spec {n : Nat} : MSpec Φ C (solidN n) ρ h w fun _ ρ' h' w' => w' = w ∧ h'.hp = h.hp ∧ ρ' = ρ ∧ ∃ b, h.blk n = some b ∧ (ρ.b n).1 ∈ b.phys ρ n ∧ ∃ ca t, w.heap[(ρ.b n).1]? = some (.cells ca t (0, 0)) ∧ ca.size ≠ 0 := by
  intro r k hk
  unfold solidN at hk
  split at hk
  · rename_i ks l bl sz el eb
    have hb := r.fact.heap _ (blk_mem eb)
    have hin := hb.inB
    simp only [Blk.inB, Bool.and_eq_true, decide_eq_true_eq] at hin
    obtain ⟨_, ρ1, h1, w1, l1, r1, d1, e1, hp1, _, e2, c1⟩ := need_spec' (Φ := Φ) (C := C) (w := w) (op := .neq) (AtIs.mono (ρ := ρ) ⟨hin.2.2, rfl⟩ (Env.le_refl _)) (AtIs.c ρ 0) r _ hk
    subst e1
    subst e2
    simp only [cmpB, bne_iff_ne] at c1
    obtain ⟨_, rest, hr, hs⟩ := hb.holds.2.2 c1
    refine ⟨(), ρ1, h1, w1, l1, r1, d1, rfl, hp1, rfl, _, eb, by simp [Blk.phys, c1], _, _, hr, ?_⟩
    simp only [List.size_toArray, List.length_append]
    omega
  · exact hk.elim
/-- What is to be known of the program's function. -/
structure OvFacts (P : Program) (f : FuncId) (tS tR e : TypeId) : Prop where
  ex : ∃ fn, P.funcs[f]? = some fn ∧ (fn.name == "runtime.NumGoroutine") = false ∧ fn.body.isNone = true ∧ Extern.findNext fn = none ∧ Extern.find fn = some (Extern.SlicesOverlaps.overlaps #[tS, tS] #[tR])
  slice : P.underlying tS = some (.slice e)
  size : ∃ s, ∀ w, (Go.sizeOf e).run P w = .ok s w
theorem ovSpec_ok {ro : List (Addr × Value)} {f : FuncId} {tS tR e : TypeId} (H : OvFacts P f tS tR e) : (ovSpec f).Ok P ro := by
  intro Φ C ρ h w args k K hro hok r hd hk
  replace hd : (ovRun args h k).den Φ ρ.is ρ.ls := hd
  unfold ovRun at hd
  split at hd
  · rename_i n o l c m p l' c'
    split at hd
    · exact hd.elim
    · rename_i hnm
      obtain ⟨_, ρ1, h1, w1, l1, r1, d1, e1, hp1, e2, b, eb, pb, nlt, ca, ta, hca⟩ := solidM_spec (Φ := Φ) (C := C) (w := w) (n := n) r (fun _ h1 => (do solidN m; pure (.b (.c 0)) : M SV) h1 k) hd
      subst e1
      subst e2
      obtain ⟨_, ρ2, h2, w2, l2, r2, d2, e3, hp2, e4, b', eb', pb', cb, tb, hcb, hne⟩ := solidN_spec (Φ := Φ) (C := C) (w := w1) (n := m) r1 (fun _ h2 => (pure (.b (.c 0)) : M SV) h2 k) d1
      subst e3
      subst e4
      have eb'' : h.blk m = some b' := by rw [← blk_of_hp hp1]; exact eb'
      have hbne : (ρ2.b n).1 ≠ (ρ2.b m).1 := by
        intro he
        have := flat_inj r.fact.nodup (a := (n, b)) (b := (m, b')) (p := (ρ2.b n).1) (blk_mem eb) (blk_mem eb'') pb (by rw [he]; exact pb')
        exact hnm (Prod.mk.inj this).1
      obtain ⟨fn, x1, x2, x3, x4, x5⟩ := H.ex
      obtain ⟨s, hs⟩ := H.size
      have hv := hk (.b (.c 0)) ρ2 h2 (.bool false) w2 (Env.le_refl _) r2 ⟨rfl, by simp [SV.den]⟩ d2
      have run := Lib.run_overlaps_apart (P := P) w2 tS tR e H.slice s hs (ρ2.at n o) (ρ2.at m p) (l.den ρ2.is).toNat (c.den ρ2.is).toNat (l'.den ρ2.is).toNat (c'.den ρ2.is).toNat (by simpa [Env.at] using hbne) ta tb ca.size cb.size
        (by simp [World.shape?, Env.at, hca]) (by simp [World.shape?, Env.at, hcb]) hne (by simp [World.frozen?, Env.at, hca]) (by simp [World.frozen?, Env.at, hca])
      show Invokes P f _ w2 K
      have e : (SV.dens ρ2 [.slc n o l c, .slc m p l' c']).toArray = #[.slice (some (ρ2.at n o)) (l.den ρ2.is).toNat (c.den ρ2.is).toNat, .slice (some (ρ2.at m p)) (l'.den ρ2.is).toNat (c'.den ρ2.is).toNat] := by simp [SV.dens, SV.den]
      unfold Invokes
      rw [e, run_callFunc_extern x1 x2 x3 x4 x5, run]
      exact hv
  · exact hd.elim
/-- The configuration knows slices.overlaps. -/
def withOv (c : Cfg) (f : FuncId) : Cfg := { c with specs := ovSpec f :: c.specs }
theorem withOv_ok {c : Cfg} {f : FuncId} {tS tR e : TypeId} (hc : c.Ok P) (H : OvFacts P f tS tR e) : (withOv c f).Ok P := by
  refine ⟨?_, hc.meths⟩
  intro s hs
  rcases List.mem_cons.1 hs with rfl | hs
  · exact ovSpec_ok H
  · exact hc.specs s hs
end
end Go.Sx
