/- Memory: reading and writing one cell, new blocks. -/
import Derived.Test.YtgkinefofnlnlaaDoorSxD
set_option linter.unusedVariables false
namespace Go.Sx

/-! ### Operations whose operands are in order -/
def IOp.okB (ni nl : Nat) (o : IOp) : Bool :=
  o.atoms.all (At.lt ni) && (match o with | .get l _ => decide (l < nl) | .len l => decide (l < nl) | _ => true)
theorem OpIs.of {ρ : Env} {o : IOp} (h : o.okB ρ.is.length ρ.ls.length = true) : OpIs ρ o (o.den ρ.is ρ.ls) := by
  intro σ
  have A : ∀ a : At, a.lt ρ.is.length = true → a.den (ρ.app σ).is = a.den ρ.is := fun a ha => At.den_app ha
  have L : ∀ l : Nat, l < ρ.ls.length → (ρ.app σ).ls.getD l [] = ρ.ls.getD l [] := fun l hl => getD_app hl
  simp only [IOp.okB, Bool.and_eq_true] at h
  cases o <;> simp only [IOp.atoms, List.all_cons, List.all_nil, Bool.and_true, Bool.and_eq_true, decide_eq_true_eq] at h <;> simp only [IOp.den] <;>
    first
      | (rw [A _ h.1.1, A _ h.1.2]; done)
      | (rw [A _ h.1, L _ h.2]; done)
      | (rw [A _ h.1]; done)
      | (rw [L _ h.2]; done)
      | (rw [A _ h.1.1, A _ h.1.2.1, A _ h.1.2.2]; done)
def LOp.okB (ni nl : Nat) : LOp → Bool
  | .set l i v => decide (l < nl) && (i.lt ni && v.lt ni)
  | .lit xs => xs.all (At.lt ni)
  | .rep n v => n.lt ni && v.lt ni
  | .push l v => decide (l < nl) && v.lt ni
  | .take l n => decide (l < nl) && n.lt ni
  | .drop l n => decide (l < nl) && n.lt ni
theorem LOpIs.of {ρ : Env} {o : LOp} (h : o.okB ρ.is.length ρ.ls.length = true) : LOpIs ρ o (o.den ρ.is ρ.ls) := by
  intro σ
  have A : ∀ a : At, a.lt ρ.is.length = true → a.den (ρ.app σ).is = a.den ρ.is := fun a ha => At.den_app ha
  have L : ∀ l : Nat, l < ρ.ls.length → (ρ.app σ).ls.getD l [] = ρ.ls.getD l [] := fun l hl => getD_app hl
  cases o <;> simp only [LOp.okB, Bool.and_eq_true, decide_eq_true_eq] at h <;> simp only [LOp.den]
  case set l i v => rw [L _ h.1, A _ h.2.1, A _ h.2.2]
  case lit xs =>
    refine List.map_congr_left fun a ha => A a (List.all_eq_true.1 h a ha)
  case rep n v => rw [A _ h.1, A _ h.2]
  case push l v => rw [L _ h.1, A _ h.2]
  case take l n => rw [L _ h.1, A _ h.2]
  case drop l n => rw [L _ h.1, A _ h.2]
section
variable {Φ : Phi} {C : Ctx} {ρ : Env} {h : H} {w : World}
theorem mkI_ok {o : IOp} (ho : o.okB ρ.is.length ρ.ls.length = true) : MSpec Φ C (mkI o) ρ h w fun a ρ' h' w' => w' = w ∧ h'.hp = h.hp ∧ AtIs ρ' a (o.den ρ.is ρ.ls) :=
  mkI_spec (by simp only [IOp.okB, Bool.and_eq_true] at ho; exact ho.1) (OpIs.of ho)
theorem mkL_ok {o : LOp} (ho : o.okB ρ.is.length ρ.ls.length = true) : MSpec Φ C (mkL o) ρ h w fun l ρ' h' w' => w' = w ∧ h'.hp = h.hp ∧ LIs ρ' l (o.den ρ.is ρ.ls) :=
  mkL_spec (LOpIs.of ho)
end

/-! ### Blocks -/
def H.blk (h : H) (n : Nat) : Option Blk := (h.hp.find? (·.1 == n)).map (·.2)
def H.setBlk (h : H) (n : Nat) (b : Blk) : H := { h with hp := h.hp.map fun e => if e.1 == n then (n, b) else e }
theorem blk_mem {h : H} {n : Nat} {b : Blk} (e : h.blk n = some b) : (n, b) ∈ h.hp := by
  unfold H.blk at e
  cases f : h.hp.find? (·.1 == n) with
  | none => rw [f] at e; cases e
  | some p =>
    rw [f] at e
    have hm := List.mem_of_find?_eq_some f
    have hp : p.1 = n := by simpa using List.find?_some f
    have : p.2 = b := by simpa using e
    obtain ⟨p1, p2⟩ := p
    simp only at hp this
    subst hp; subst this; exact hm

theorem nodup_inj {α β : Type} {f : α → β} : ∀ {l : List α}, (l.map f).Nodup → ∀ {a b : α}, a ∈ l → b ∈ l → f a = f b → a = b
  | [], _, _, _, h, _, _ => by cases h
  | x :: l, hn, a, b, ha, hb, e => by
    simp only [List.map_cons, List.nodup_cons, List.mem_map, not_exists, not_and] at hn
    rcases List.mem_cons.1 ha with h1 | h1 <;> rcases List.mem_cons.1 hb with h2 | h2
    · rw [h1, h2]
    · rw [h1] at e; exact absurd e.symm (hn.1 _ h2)
    · rw [h2] at e; exact absurd e (hn.1 _ h1)
    · exact nodup_inj hn.2 h1 h2 e

/-- One owned block gets other contents. -/
theorem RepH.setBlk {C : Ctx} {ρ : Env} {h : H} {w w' : World} (r : RepH C ρ h w) {n : Nat} {b b' : Blk} (hb : h.blk n = some b) (ho : b.owned = true) (ho' : b'.owned = true)
    (hsize : w'.heap.size = w.heap.size) (hother : ∀ q, q ≠ (ρ.b n).1 → w'.heap[q]? = w.heap[q]?) (hos : w'.os = w.os) (hout : w'.output = w.output)
    (hnew : ∀ σ, BlkOk C (ρ.app σ) w' n b') : RepH C ρ (h.setBlk n b') w' := by
  have hm := blk_mem hb
  have hbn : n < ρ.bs.length := by
    have f := r.facts .nil
    rw [Env.app_nil] at f
    have := f.heap _ hm
    cases b <;> simp only [BlkOk] at this <;> exact this.1
  refine ⟨r.ni, r.nl, r.nb, fun σ => ?_, ?_⟩
  · have f := r.facts σ
    have hphys : (ρ.app σ).b n = ρ.b n := Env.b_app hbn
    have key : ∀ e ∈ h.hp, e.2.owned = true → e.1 ≠ n → ((ρ.app σ).b e.1).1 ≠ (ρ.b n).1 := by
      intro e he hoe hne heq
      have := nodup_inj f.nodup (a := e) (b := (n, b)) (List.mem_filter.2 ⟨he, hoe⟩) (List.mem_filter.2 ⟨hm, ho⟩) (by rw [heq, hphys])
      exact hne (by rw [this])
    refine ⟨fun e he => ?_, ?_, f.rng, f.defs, f.lrng⟩
    · simp only [H.setBlk, List.mem_map] at he
      obtain ⟨e0, he0, rfl⟩ := he
      by_cases hn : e0.1 = n
      · simp only [hn, beq_self_eq_true, if_true]
        exact hnew σ
      · have hn' : (e0.1 == n) = false := by simpa using hn
        simp only [hn', Bool.false_eq_true, if_false]
        have h0 := f.heap e0 he0
        obtain ⟨m, bb⟩ := e0
        cases bb with
        | cells xs el =>
          have hk := key _ he0 rfl hn
          simp only [BlkOk] at h0 ⊢
          rw [hother _ hk]; exact h0
        | arr ks l len el =>
          have hk := key _ he0 rfl hn
          simp only [BlkOk] at h0 ⊢
          rw [hother _ hk]; exact h0
        | ro ks l len => exact h0
    · have : ((h.setBlk n b').hp.filter (·.2.owned)).map (fun e => ((ρ.app σ).b e.1).1) = (h.hp.filter (·.2.owned)).map (fun e => ((ρ.app σ).b e.1).1) := by
        simp only [H.setBlk]
        have hl : ∀ l : List (Nat × Blk), (∀ e ∈ l, e ∈ h.hp) → ((l.map fun e => if e.1 == n then (n, b') else e).filter (·.2.owned)).map (fun e => ((ρ.app σ).b e.1).1) = (l.filter (·.2.owned)).map (fun e => ((ρ.app σ).b e.1).1) := by
          intro l
          induction l with
          | nil => intro _; rfl
          | cons e l ih =>
            intro hl
            have ih' := ih fun x hx => hl x (List.mem_cons_of_mem _ hx)
            by_cases hn : e.1 = n
            · have heo : e.2.owned = true := by
                cases hq : e.2.owned with
                | true => rfl
                | false =>
                  exfalso
                  have g1 := f.heap e (hl e (List.mem_cons_self ..))
                  have g2 := f.heap _ hm
                  obtain ⟨m, bb⟩ := e
                  simp only at hn; subst hn
                  cases bb <;> simp only [Blk.owned] at hq <;> try (cases hq; done)
                  simp only [BlkOk] at g1
                  have g3 : C.w0.heap.size ≤ ((ρ.app σ).b m).1 ∨ ((ρ.app σ).b m).1 ∈ C.own := by
                    cases b <;> simp only [Blk.owned, BlkOk] at ho g2
                    · exact g2.2.2.2.1
                    · exact g2.2.2.2.2.1
                    · cases ho
                  rcases g3 with g3 | g3
                  · omega
                  · exact g1.2.2.2.2.1 g3
              simp only [List.map_cons, hn, beq_self_eq_true, if_true, List.filter_cons, ho', heo, List.map_cons, ih']
            · have hn' : (e.1 == n) = false := by simpa using hn
              simp only [List.map_cons, hn', Bool.false_eq_true, if_false, List.filter_cons]
              split <;> simp only [List.map_cons, ih']
        exact hl h.hp fun _ h => h
      rw [this]; exact f.nodup
  · have f := r.facts .nil
    rw [Env.app_nil] at f
    have hn := f.heap _ hm
    have hown : C.w0.heap.size ≤ (ρ.b n).1 ∨ (ρ.b n).1 ∈ C.own := by
      cases b <;> simp only [Blk.owned, BlkOk] at ho hn
      · exact hn.2.2.2.1
      · exact hn.2.2.2.2.1
      · cases ho
    refine ⟨by rw [hsize]; exact r.frame.size, fun q hq hno => ?_, hos.trans r.frame.os, hout.trans r.frame.output⟩
    rw [hother q (by rintro rfl; rcases hown with hh | hh; omega; exact hno hh)]
    exact r.frame.old q hq hno

theorem heap_alloc_lt (w : World) (o : Obj) {q : Nat} (hq : q < w.heap.size) : (w.alloc o).heap[q]? = w.heap[q]? := by
  show (w.heap.push o)[q]? = w.heap[q]?
  rw [Array.getElem?_push, if_neg (Nat.ne_of_lt hq)]
theorem heap_alloc_new (w : World) (o : Obj) : (w.alloc o).heap[w.heap.size]? = some o := by
  show (w.heap.push o)[w.heap.size]? = some o
  rw [Array.getElem?_push, if_pos rfl]
def Env.pushB (ρ : Env) (p : Nat) : Env := ρ.app ⟨[], [], [(p, 0)]⟩
theorem pushB_at (ρ : Env) (p : Nat) : (ρ.pushB p).b ρ.bs.length = (p, 0) := by
  simp [Env.pushB, Env.app, Env.b]
/-- A new block. -/
theorem RepH.alloc {C : Ctx} {ρ : Env} {h : H} {w : World} (r : RepH C ρ h w) {b : Blk} (o : Obj) (hb : ∀ σ, BlkOk C ((ρ.pushB w.heap.size).app σ) (w.alloc o) h.nb b) :
    RepH C (ρ.pushB w.heap.size) { h with hp := (h.nb, b) :: h.hp, nb := h.nb + 1 } (w.alloc o) := by
  have hlt : ∀ σ, ∀ e ∈ h.hp, e.2.owned = true → ((ρ.app σ).b e.1).1 < w.heap.size := by
    intro σ e he ho
    have := (r.facts σ).heap e he
    obtain ⟨m, bb⟩ := e
    cases bb <;> simp only [BlkOk] at this <;> try (cases ho; done)
    · have := this.2.2.2.2
      rcases Nat.lt_or_ge ((ρ.app σ).b m).1 w.heap.size with hh | hh
      · exact hh
      · simp [Array.getElem?_eq_none hh] at this
    · have := this.2.2.2.2.2.1
      rcases Nat.lt_or_ge ((ρ.app σ).b m).1 w.heap.size with hh | hh
      · exact hh
      · simp [Array.getElem?_eq_none hh] at this
  refine ⟨by simp [Env.pushB, Env.app, r.ni], by simp [Env.pushB, Env.app, r.nl], by simp [Env.pushB, Env.app, r.nb], fun σ => ?_, ?_⟩
  · have e1 : (ρ.pushB w.heap.size).app σ = ρ.app ((⟨[], [], [(w.heap.size, 0)]⟩ : Env).app σ) := Env.app_assoc _ _ _
    have f := r.facts ((⟨[], [], [(w.heap.size, 0)]⟩ : Env).app σ)
    rw [← e1] at f
    have hlt' : ∀ e ∈ h.hp, e.2.owned = true → (((ρ.pushB w.heap.size).app σ).b e.1).1 < w.heap.size := by rw [e1]; exact hlt _
    have hat : ((ρ.pushB w.heap.size).app σ).b h.nb = (w.heap.size, 0) := by
      rw [← r.nb, Env.b_app (by simp [Env.pushB, Env.app]), pushB_at]
    refine ⟨fun e he => ?_, ?_, f.rng, f.defs, f.lrng⟩
    · rcases List.mem_cons.1 he with rfl | he
      · exact hb σ
      · have h0 := f.heap e he
        have hl := hlt' e he
        obtain ⟨m, bb⟩ := e
        have push : ∀ q, q < w.heap.size → (w.alloc o).heap[q]? = w.heap[q]? := fun q hq => heap_alloc_lt w o hq
        cases bb with
        | cells xs el => simp only [BlkOk] at h0 ⊢; rw [push _ (hl rfl)]; exact h0
        | arr ks l len el => simp only [BlkOk] at h0 ⊢; rw [push _ (hl rfl)]; exact h0
        | ro ks l len => exact h0
    · rw [List.filter_cons]
      split
      · simp only [List.map_cons, List.nodup_cons, hat, List.mem_map, List.mem_filter, not_exists, not_and]
        refine ⟨fun e ⟨he, ho⟩ heq => ?_, f.nodup⟩
        have := hlt' e he ho
        omega
      · exact f.nodup
  · refine ⟨by rw [World.size_alloc]; exact Nat.le_succ_of_le r.frame.size, fun q hq hno => ?_, r.frame.os, r.frame.output⟩
    have : q < w.heap.size := Nat.lt_of_lt_of_le hq r.frame.size
    rw [← r.frame.old q hq hno]
    exact heap_alloc_lt w o this

end Go.Sx
