/- A contract as a template, and its use at a call. -/
import Derived.Test.YtgkinefofnlnlaaDoorSxR
set_option linter.unusedVariables false
namespace Go.Sx

structure FSpec where
  f : FuncId
  ni : Nat
  nl : Nat
  nb : Nat
  args : List SV
  hp : List (Nat × Blk)
  irng : List (Nat × Int × Int) := []
  ilrng : List (Nat × Int × Int) := []
  ri : Nat := 0
  rl : Nat := 0
  rb : Nat := 0
  res : SV
  hp' : List (Nat × Blk)
  orng : List (Nat × Int × Int) := []
  olrng : List (Nat × Int × Int) := []
  rel : Rel

def FSpec.H0 (s : FSpec) : H := { hp := s.hp, ni := s.ni, nl := s.nl, nb := s.nb, rng := s.irng, defs := [], lrng := s.ilrng }
def FSpec.H1 (s : FSpec) : H := { hp := s.hp', ni := s.ni + s.ri, nl := s.nl + s.rl, nb := s.nb + s.rb, rng := s.orng, defs := [], lrng := s.olrng }
def ownPhys (ρ : Env) (hp : List (Nat × Blk)) : List Nat := (hp.filter (·.2.owned)).map fun e => (ρ.b e.1).1
def FSpec.ctx (s : FSpec) (ρ : Env) (w : World) (ro : List (Addr × Value)) : Ctx := ⟨w, ownPhys ρ s.hp, ro⟩

structure FSpec.Post (s : FSpec) (C : Ctx) (ρ : Env) (v : Value) (w' : World) (τ : Env) : Prop where
  li : τ.is.length = s.ri
  ll : τ.ls.length = s.rl
  lb : τ.bs.length = s.rb
  rel : s.rel.post ρ.is ρ.ls τ.is τ.ls
  val : SvIs (ρ.app τ) s.res v
  rep : RepH C (ρ.app τ) s.H1 w'
/-- The contract. -/
def FSpec.Holds (P : Program) (ro : List (Addr × Value)) (s : FSpec) : Prop :=
  ∀ (w : World) (ρ : Env), RoOk (s.ctx ρ w ro) ro → RepH (s.ctx ρ w ro) ρ s.H0 w → SV.oks ρ.is.length ρ.bs.length s.args = true → s.rel.pre ρ.is ρ.ls →
    Invokes P s.f (SV.dens ρ s.args).toArray w fun v w' => ∃ τ, s.Post (s.ctx ρ w ro) ρ v w' τ

theorem BlkOk.app {C : Ctx} {ρ : Env} {w : World} {n : Nat} {b : Blk} (h : BlkOk C ρ w n b) (σ : Env) : BlkOk C (ρ.app σ) w n b := by
  have L := Env.le_len (Env.le_app ρ σ)
  cases b with
  | cells xs el =>
    simp only [BlkOk] at h ⊢
    rw [Env.b_app h.1, SV.dens_app xs h.2.1]
    exact ⟨by omega, SV.oks_mono L.1 L.2.2 xs h.2.1, h.2.2⟩
  | arr ks l len el =>
    simp only [BlkOk] at h ⊢
    have e1 : (ρ.app σ).ls.getD l [] = ρ.ls.getD l [] := getD_app h.2.1
    have e2 : At.den (ρ.app σ).is len = At.den ρ.is len := At.den_app h.2.2.1
    rw [Env.b_app h.1, e1, e2]
    exact ⟨by omega, by omega, At.lt_mono h.2.2.1 L.1, h.2.2.2⟩
  | ro ks l len =>
    simp only [BlkOk] at h ⊢
    have e1 : (ρ.app σ).ls.getD l [] = ρ.ls.getD l [] := getD_app h.2.1
    have e2 : At.den (ρ.app σ).is len = At.den ρ.is len := At.den_app h.2.2.1
    rw [Env.b_app h.1, e1, e2]
    exact ⟨by omega, by omega, At.lt_mono h.2.2.1 L.1, h.2.2.2⟩
theorem BlkOk.lt {C : Ctx} {ρ : Env} {w : World} {n : Nat} {b : Blk} (h : BlkOk C ρ w n b) : n < ρ.bs.length := by
  cases b <;> simp only [BlkOk] at h <;> exact h.1
theorem BlkOk.phys {C : Ctx} {ρ : Env} {w : World} {n : Nat} {b : Blk} (h : BlkOk C ρ w n b) (ho : b.owned = true) : (ρ.b n).1 < w.heap.size ∧ (C.w0.heap.size ≤ (ρ.b n).1 ∨ (ρ.b n).1 ∈ C.own) := by
  cases b <;> simp only [BlkOk] at h
  · refine ⟨?_, h.2.2.2.1⟩
    rcases Nat.lt_or_ge (ρ.b n).1 w.heap.size with hh | hh
    · exact hh
    · have := h.2.2.2.2; simp [Array.getElem?_eq_none hh] at this
  · refine ⟨?_, h.2.2.2.2.1⟩
    rcases Nat.lt_or_ge (ρ.b n).1 w.heap.size with hh | hh
    · exact hh
    · have := h.2.2.2.2.2.1; simp [Array.getElem?_eq_none hh] at this
  · cases ho
/-- Facts about what stands in the environment now hold whatever is added. -/
theorem Facts.of {C : Ctx} {ρ : Env} {h : H} {w : World} (hh : ∀ e ∈ h.hp, BlkOk C ρ w e.1 e.2) (hn : (ownPhys ρ h.hp).Nodup)
    (hr : ∀ r ∈ h.rng, ∀ σ : Env, r.2.1 ≤ (ρ.app σ).is.getD r.1 0 ∧ (ρ.app σ).is.getD r.1 0 ≤ r.2.2) (hd : ∀ d ∈ h.defs, ∀ σ : Env, (ρ.app σ).is.getD d.1 0 = d.2.den (ρ.app σ).is (ρ.app σ).ls)
    (hl : ∀ r ∈ h.lrng, ∀ σ : Env, ∀ x ∈ (ρ.app σ).ls.getD r.1 [], r.2.1 ≤ x ∧ x ≤ r.2.2) (σ : Env) : Facts C (ρ.app σ) h w := by
  refine ⟨fun e he => (hh e he).app σ, ?_, fun r hr' => hr r hr' σ, fun d hd' => hd d hd' σ, fun r hr' => hl r hr' σ⟩
  · have : (h.hp.filter (·.2.owned)).map (fun e => ((ρ.app σ).b e.1).1) = ownPhys ρ h.hp := by
      refine List.map_congr_left fun e he => ?_
      have := hh e (List.mem_filter.1 he).1
      rw [Env.b_app this.lt]
    rw [this]; exact hn

/-- A block's instance holds where the block holds. -/
theorem BlkOk.inst {C C' : Ctx} {ρ : Env} {θ : Sub} {w : World} {n : Nat} {b : Blk} (hn : n < θ.bs.length)
    (hb : (match b with | .cells xs _ => SV.oks θ.is.length θ.bs.length xs | .arr _ l len _ => decide (l < θ.ls.length) && len.lt θ.is.length | .ro _ l len => decide (l < θ.ls.length) && len.lt θ.is.length) = true)
    (h : BlkOk C ρ w (θ.bs.getD n 0) (b.inst θ)) (hown : b.owned = true → (C'.w0.heap.size ≤ (ρ.b (θ.bs.getD n 0)).1 ∨ (ρ.b (θ.bs.getD n 0)).1 ∈ C'.own))
    (hro : b.owned = false → (ρ.b (θ.bs.getD n 0)).1 < C'.w0.heap.size ∧ (ρ.b (θ.bs.getD n 0)).1 ∉ C'.own ∧ ∀ a : Addr, a.block = (ρ.b (θ.bs.getD n 0)).1 → ∀ v, C.w0.cell? a = some v → C'.w0.cell? a = some v) :
    BlkOk C' (θ.env ρ) w n b := by
  have l1 : (θ.env ρ).is.length = θ.is.length := by simp [Sub.env]
  have l2 : (θ.env ρ).ls.length = θ.ls.length := by simp [Sub.env]
  have l3 : (θ.env ρ).bs.length = θ.bs.length := by simp [Sub.env]
  cases b with
  | cells xs el =>
    simp only [BlkOk, Blk.inst] at h ⊢
    simp only at hb
    rw [l1, l3, inst_b hn, inst_dens xs hb]
    exact ⟨hn, hb, h.2.2.1, hown rfl, h.2.2.2.2⟩
  | arr ks l len el =>
    simp only [BlkOk, Blk.inst] at h ⊢
    simp only [Bool.and_eq_true, decide_eq_true_eq] at hb
    rw [l1, l2, l3, inst_b hn, inst_l hb.1, inst_at hb.2]
    exact ⟨hn, hb.1, hb.2, h.2.2.2.1, hown rfl, h.2.2.2.2.2⟩
  | ro ks l len =>
    simp only [BlkOk, Blk.inst] at h ⊢
    simp only [Bool.and_eq_true, decide_eq_true_eq] at hb
    rw [l1, l2, l3, inst_b hn, inst_l hb.1, inst_at hb.2]
    have := hro rfl
    exact ⟨hn, hb.1, hb.2, this.1, this.2.1, fun j hj => this.2.2 _ rfl _ (h.2.2.2.2.2.1 j hj), h.2.2.2.2.2.2⟩
mutual
theorem SV.ok_inst {θ : Sub} {ρ : Env} (hat : ∀ a : At, a.lt θ.is.length = true → (a.inst θ).lt ρ.is.length = true) (hbn : ∀ m, m < θ.bs.length → θ.bs.getD m 0 < ρ.bs.length) :
    ∀ x : SV, SV.ok θ.is.length θ.bs.length x = true → SV.ok ρ.is.length ρ.bs.length (SV.inst θ x) = true
  | .i k a, h => by simp only [SV.ok, SV.inst] at *; exact hat a h
  | .b a, h => by simp only [SV.ok, SV.inst] at *; exact hat a h
  | .nilp, _ => rfl
  | .ptr n o, h => by
    simp only [SV.ok, SV.inst, Bool.and_eq_true, decide_eq_true_eq] at *
    exact ⟨hbn n h.1, hat o h.2⟩
  | .slc n o l c, h => by
    simp only [SV.ok, SV.inst, Bool.and_eq_true, decide_eq_true_eq] at *
    exact ⟨hbn n h.1, hat o h.2.1, hat l h.2.2.1, hat c h.2.2.2⟩
  | .nils, _ => rfl
  | .raw _, _ => rfl
  | .iface _ x, h => by rw [SV.inst, SV.ok] at *; exact SV.ok_inst hat hbn x h
  | .agg xs, h => by rw [SV.inst, SV.ok] at *; exact SV.oks_inst hat hbn xs h
  | .tup xs, h => by rw [SV.inst, SV.ok] at *; exact SV.oks_inst hat hbn xs h
  | .fn _ xs, h => by rw [SV.inst, SV.ok] at *; exact SV.oks_inst hat hbn xs h
theorem SV.oks_inst {θ : Sub} {ρ : Env} (hat : ∀ a : At, a.lt θ.is.length = true → (a.inst θ).lt ρ.is.length = true) (hbn : ∀ m, m < θ.bs.length → θ.bs.getD m 0 < ρ.bs.length) :
    ∀ xs : List SV, SV.oks θ.is.length θ.bs.length xs = true → SV.oks ρ.is.length ρ.bs.length (SV.insts θ xs) = true
  | [], _ => rfl
  | x :: xs, h => by
    simp only [SV.oks, SV.insts, Bool.and_eq_true] at *
    exact ⟨SV.ok_inst hat hbn x h.1, SV.oks_inst hat hbn xs h.2⟩
end
/-- And the other way. -/
theorem BlkOk.uninst {C C' : Ctx} {ρ : Env} {θ : Sub} {w : World} {n : Nat} {b : Blk} (ho : b.owned = true) (h : BlkOk C (θ.env ρ) w n b)
    (hθ : θ.is.all (At.lt ρ.is.length) = true) (hθl : ∀ l ∈ θ.ls, l < ρ.ls.length) (hθb : ∀ l ∈ θ.bs, l < ρ.bs.length)
    (hown : C.w0.heap.size ≤ ((θ.env ρ).b n).1 ∨ ((θ.env ρ).b n).1 ∈ C.own → (C'.w0.heap.size ≤ (ρ.b (θ.bs.getD n 0)).1 ∨ (ρ.b (θ.bs.getD n 0)).1 ∈ C'.own)) :
    BlkOk C' ρ w (θ.bs.getD n 0) (b.inst θ) := by
  have l1 : (θ.env ρ).is.length = θ.is.length := by simp [Sub.env]
  have l2 : (θ.env ρ).ls.length = θ.ls.length := by simp [Sub.env]
  have l3 : (θ.env ρ).bs.length = θ.bs.length := by simp [Sub.env]
  have hat : ∀ a : At, a.lt θ.is.length = true → (a.inst θ).lt ρ.is.length = true := by
    intro a ha
    cases a with
    | c n => rfl
    | v i =>
      have hi : i < θ.is.length := by simpa [At.lt] using ha
      simp only [At.inst, List.getD, List.getElem?_eq_getElem hi, Option.getD_some]
      exact List.all_eq_true.1 hθ _ (List.getElem_mem hi)
  have hbn : ∀ m, m < θ.bs.length → θ.bs.getD m 0 < ρ.bs.length := by
    intro m hm
    simp only [List.getD, List.getElem?_eq_getElem hm, Option.getD_some]
    exact hθb _ (List.getElem_mem hm)
  have hln : ∀ m, m < θ.ls.length → θ.ls.getD m 0 < ρ.ls.length := by
    intro m hm
    simp only [List.getD, List.getElem?_eq_getElem hm, Option.getD_some]
    exact hθl _ (List.getElem_mem hm)
  cases b with
  | cells xs el =>
    simp only [BlkOk, Blk.inst] at h ⊢
    rw [l1, l3] at h
    rw [inst_b h.1, inst_dens xs h.2.1] at h
    exact ⟨hbn n h.1, SV.oks_inst hat hbn xs h.2.1, h.2.2.1, hown (by rw [inst_b h.1]; exact h.2.2.2.1), h.2.2.2.2⟩
  | arr ks l len el =>
    simp only [BlkOk, Blk.inst] at h ⊢
    rw [l1, l2, l3] at h
    rw [inst_b h.1, inst_l h.2.1, inst_at h.2.2.1] at h
    exact ⟨hbn n h.1, hln l h.2.1, hat len h.2.2.1, h.2.2.2.1, hown (by rw [inst_b h.1]; exact h.2.2.2.2.1), h.2.2.2.2.2⟩
  | ro ks l len => cases ho
end Go.Sx
