/- Memory: reading and writing one cell, new blocks. -/
import Derived.Test.YthjfkblnbecjgaaGreatDoorSxD
set_option linter.unusedVariables false
namespace Go.Sx

/-! ### Operations whose operands are in order -/
def IOp.okB (ni nl : Nat) (o : IOp) : Bool :=
  o.atoms.all (At.lt ni) && (match o with | .get l _ => decide (l < nl) | .len l => decide (l < nl) | _ => true)
theorem OpIs.of {ρ : Env} {o : IOp} (h : o.okB ρ.is.length ρ.ls.length = true) : OpIs ρ o (o.den ρ.is ρ.ls) := by
  intro σ
  have A : ∀ a : At, a.lt ρ.is.length = true → a.den (ρ.app σ).is = a.den ρ.is := fun a ha => At.den_app ha
  have L : ∀ l : Nat, l < ρ.ls.length → (ρ.app σ).ls.getD l [] = ρ.ls.getD l [] := fun l hl => getD_app hl
  simp only [IOp.okB, Bool.and_eq_true] at h
  cases o <;> simp only [IOp.atoms, List.all_cons, List.all_nil, Bool.and_true, Bool.and_eq_true, decide_eq_true_eq] at h <;> simp only [IOp.den] <;>
    first
      | (rw [A _ h.1.1, A _ h.1.2]; done)
      | (rw [A _ h.1, L _ h.2]; done)
      | (rw [A _ h.1]; done)
      | (rw [L _ h.2]; done)
      | (rw [A _ h.1.1, A _ h.1.2.1, A _ h.1.2.2]; done)
def LOp.okB (ni nl : Nat) : LOp → Bool
  | .set l i v => decide (l < nl) && (i.lt ni && v.lt ni)
  | .lit xs => xs.all (At.lt ni)
  | .rep n v => n.lt ni && v.lt ni
  | .push l v => decide (l < nl) && v.lt ni
  | .take l n => decide (l < nl) && n.lt ni
  | .drop l n => decide (l < nl) && n.lt ni
  | .app l m => decide (l < nl) && decide (m < nl)
  | .put l n m => decide (l < nl) && (n.lt ni && decide (m < nl))
theorem LOpIs.of {ρ : Env} {o : LOp} (h : o.okB ρ.is.length ρ.ls.length = true) : LOpIs ρ o (o.den ρ.is ρ.ls) := by
  intro σ
  have A : ∀ a : At, a.lt ρ.is.length = true → a.den (ρ.app σ).is = a.den ρ.is := fun a ha => At.den_app ha
  have L : ∀ l : Nat, l < ρ.ls.length → (ρ.app σ).ls.getD l [] = ρ.ls.getD l [] := fun l hl => getD_app hl
  cases o <;> simp only [LOp.okB, Bool.and_eq_true, decide_eq_true_eq] at h <;> simp only [LOp.den]
  case set l i v => rw [L _ h.1, A _ h.2.1, A _ h.2.2]
  case lit xs =>
    refine List.map_congr_left fun a ha => A a (List.all_eq_true.1 h a ha)
  case rep n v => rw [A _ h.1, A _ h.2]
  case push l v => rw [L _ h.1, A _ h.2]
  case take l n => rw [L _ h.1, A _ h.2]
  case drop l n => rw [L _ h.1, A _ h.2]
  case app l m => rw [L _ h.1, L _ h.2]
  case put l n m => rw [L _ h.1, A _ h.2.1, L _ h.2.2]
section
variable {Φ : Phi} {C : Ctx} {ρ : Env} {h : H} {w : World}
theorem mkI_ok {o : IOp} (ho : o.okB ρ.is.length ρ.ls.length = true) : MSpec Φ C (mkI o) ρ h w fun a ρ' h' w' => w' = w ∧ h'.hp = h.hp ∧ AtIs ρ' a (o.den ρ.is ρ.ls) :=
  mkI_spec (by simp only [IOp.okB, Bool.and_eq_true] at ho; exact ho.1) (OpIs.of ho)
theorem mkL_ok {o : LOp} (ho : o.okB ρ.is.length ρ.ls.length = true) : MSpec Φ C (mkL o) ρ h w fun l ρ' h' w' => w' = w ∧ h'.hp = h.hp ∧ LIs ρ' l (o.den ρ.is ρ.ls) :=
  mkL_spec (LOpIs.of ho)
end

/-! ### Blocks -/
def H.blk (h : H) (n : Nat) : Option Blk := (h.hp.find? (·.1 == n)).map (·.2)
/-- Some blocks go, others come. -/
def H.swap (h : H) (drop : List Nat) (news : List (Nat × Blk)) : H := { h with hp := news ++ h.hp.filter fun e => !drop.contains e.1 }
def H.setBlk (h : H) (n : Nat) (b : Blk) : H := h.swap [n] [(n, b)]
theorem blk_mem {h : H} {n : Nat} {b : Blk} (e : h.blk n = some b) : (n, b) ∈ h.hp := by
  unfold H.blk at e
  cases f : h.hp.find? (·.1 == n) with
  | none => rw [f] at e; cases e
  | some p =>
    rw [f] at e
    have hm := List.mem_of_find?_eq_some f
    have hp : p.1 = n := by simpa using List.find?_some f
    have : p.2 = b := by simpa using e
    obtain ⟨p1, p2⟩ := p
    simp only at hp this
    subst hp; subst this; exact hm

theorem flat_inj {α β : Type} {f : α → List β} : ∀ {l : List α}, (l.flatMap f).Nodup → ∀ {a b : α} {p : β}, a ∈ l → b ∈ l → p ∈ f a → p ∈ f b → a = b
  | [], _, _, _, _, h, _, _, _ => by cases h
  | x :: l, hn, a, b, p, ha, hb, pa, pb => by
    simp only [List.flatMap_cons, List.nodup_append] at hn
    obtain ⟨n1, n2, n3⟩ := hn
    rcases List.mem_cons.1 ha with h1 | h1 <;> rcases List.mem_cons.1 hb with h2 | h2
    · rw [h1, h2]
    · subst h1; exact absurd rfl (n3 _ pa _ (List.mem_flatMap.2 ⟨b, h2, pb⟩))
    · subst h2; exact absurd rfl (n3 _ pb _ (List.mem_flatMap.2 ⟨a, h1, pa⟩))
    · exact flat_inj n2 h1 h2 pa pb
theorem flat_filter {α β : Type} {f : α → List β} (q : α → Bool) : ∀ {l : List α}, (l.flatMap f).Nodup → ((l.filter q).flatMap f).Nodup
  | [], _ => List.nodup_nil
  | x :: l, hn => by
    simp only [List.flatMap_cons, List.nodup_append] at hn
    obtain ⟨n1, n2, n3⟩ := hn
    rw [List.filter_cons]
    split
    · simp only [List.flatMap_cons, List.nodup_append]
      refine ⟨n1, flat_filter q n2, fun a ha b hb => n3 a ha b ?_⟩
      obtain ⟨e, he, hbe⟩ := List.mem_flatMap.1 hb
      exact List.mem_flatMap.2 ⟨e, (List.mem_filter.1 he).1, hbe⟩
    · exact flat_filter q n2

theorem Blk.inB_mono {a b c a' b' c' : Nat} (h1 : a ≤ a') (h2 : b ≤ b') (h3 : c ≤ c') {k : Blk} (h : k.inB a b c = true) : k.inB a' b' c' = true := by
  cases k with
  | cells xs sz el => simp only [Blk.inB, Bool.and_eq_true] at *; exact ⟨SV.oks_mono h1 h3 xs h.1, At.lt_mono h.2 h1⟩
  | arr ks l len sz el => simp only [Blk.inB, Bool.and_eq_true, decide_eq_true_eq] at *; exact ⟨by omega, At.lt_mono h.2.1 h1, At.lt_mono h.2.2 h1⟩
  | ro ks l len => simp only [Blk.inB, Bool.and_eq_true, decide_eq_true_eq] at *; exact ⟨by omega, At.lt_mono h.2 h1⟩
  | map ks vs => simp only [Blk.inB, Bool.and_eq_true] at *; exact ⟨SV.oks_mono h1 h3 ks h.1, SV.oks_mono h1 h3 vs h.2⟩
theorem Blk.phys_app {ρ σ : Env} {n : Nat} {k : Blk} (hn : n < ρ.bs.length) (h : k.inB ρ.is.length ρ.ls.length ρ.bs.length = true) : k.phys (ρ.app σ) n = k.phys ρ n := by
  cases k with
  | cells xs sz el => simp only [Blk.phys, Env.b_app hn]
  | arr ks l len sz el =>
    simp only [Blk.inB, Bool.and_eq_true, decide_eq_true_eq] at h
    have : sz.den (ρ.app σ).is = sz.den ρ.is := At.den_app h.2.2
    simp only [Blk.phys, Env.b_app hn, this]
  | ro ks l len => rfl
  | map ks vs => simp only [Blk.phys, Env.b_app hn]
theorem Blk.holds_app {C : Ctx} {ρ σ : Env} {w : World} {n : Nat} {k : Blk} (hn : n < ρ.bs.length) (h : k.inB ρ.is.length ρ.ls.length ρ.bs.length = true) : k.holds C (ρ.app σ) w n ↔ k.holds C ρ w n := by
  cases k with
  | cells xs sz el =>
    simp only [Blk.inB, Bool.and_eq_true] at h
    have : sz.den (ρ.app σ).is = sz.den ρ.is := At.den_app h.2
    simp only [Blk.holds, Env.b_app hn, this, SV.dens_app xs h.1]
  | arr ks l len sz el =>
    simp only [Blk.inB, Bool.and_eq_true, decide_eq_true_eq] at h
    have e1 : sz.den (ρ.app σ).is = sz.den ρ.is := At.den_app h.2.2
    have e2 : len.den (ρ.app σ).is = len.den ρ.is := At.den_app h.2.1
    have e3 : (ρ.app σ).ls.getD l [] = ρ.ls.getD l [] := getD_app h.1
    simp only [Blk.holds, Env.b_app hn, e1, e2, e3]
  | ro ks l len =>
    simp only [Blk.inB, Bool.and_eq_true, decide_eq_true_eq] at h
    have e2 : len.den (ρ.app σ).is = len.den ρ.is := At.den_app h.2
    have e3 : (ρ.app σ).ls.getD l [] = ρ.ls.getD l [] := getD_app h.1
    simp only [Blk.holds, Env.b_app hn, e2, e3]
  | map ks vs =>
    simp only [Blk.inB, Bool.and_eq_true] at h
    simp only [Blk.holds, Env.b_app hn, SV.dens_app ks h.1, SV.dens_app vs h.2]
theorem BlkOk.app {C : Ctx} {ρ : Env} {w : World} {n : Nat} {b : Blk} (h : BlkOk C ρ w n b) (σ : Env) : BlkOk C (ρ.app σ) w n b := by
  have L := Env.le_len (Env.le_app ρ σ)
  exact ⟨Nat.lt_of_lt_of_le h.lt L.2.2, Blk.inB_mono L.1 L.2.1 L.2.2 h.inB, by rw [Blk.phys_app h.lt h.inB]; exact h.mine, (Blk.holds_app h.lt h.inB).2 h.holds⟩
theorem BlkOk.mono {C : Ctx} {ρ ρ' : Env} {w : World} {n : Nat} {b : Blk} (h : BlkOk C ρ w n b) (l : ρ.le ρ') : BlkOk C ρ' w n b := by
  obtain ⟨σ, rfl⟩ := l; exact h.app σ
theorem HasCells.lt {w : World} {p : Nat} {vs : List Value} {sz : Int} {el : TypeId} (h : HasCells w p vs sz el) : p < w.heap.size := by
  obtain ⟨rest, h, _⟩ := h
  rcases Nat.lt_or_ge p w.heap.size with hh | hh
  · exact hh
  · simp [Array.getElem?_eq_none hh] at h
theorem BlkOk.physLt {C : Ctx} {ρ : Env} {w : World} {n : Nat} {b : Blk} (h : BlkOk C ρ w n b) : ∀ p ∈ b.phys ρ n, p < w.heap.size := by
  intro p hp
  have hh := h.holds
  cases b with
  | cells xs sz el =>
    simp only [Blk.phys, List.mem_singleton] at hp
    subst hp
    exact hh.2.lt
  | arr ks l len sz el =>
    simp only [Blk.phys] at hp
    split at hp
    · cases hp
    · rename_i hz
      rw [List.mem_singleton.1 hp]
      exact (hh.2.2 hz).2.lt
  | ro ks l len => cases hp
  | map ks vs =>
    simp only [Blk.phys, List.mem_singleton] at hp
    subst hp
    obtain ⟨es, c, h, _⟩ := hh
    rcases Nat.lt_or_ge (ρ.b n).1 w.heap.size with hh | hh
    · exact hh
    · simp [Array.getElem?_eq_none hh] at h
theorem ownPhys_app {ρ σ : Env} : ∀ {hp : List (Nat × Blk)}, (∀ e ∈ hp, e.1 < ρ.bs.length ∧ e.2.inB ρ.is.length ρ.ls.length ρ.bs.length = true) → ownPhys (ρ.app σ) hp = ownPhys ρ hp
  | [], _ => rfl
  | e :: l, h => by
    have := h e (List.mem_cons_self ..)
    have ih := ownPhys_app (ρ := ρ) (σ := σ) (hp := l) fun x hx => h x (List.mem_cons_of_mem _ hx)
    unfold ownPhys at *
    rw [List.flatMap_cons, List.flatMap_cons, ih, Blk.phys_app this.1 this.2]

/-- Facts about what stands in the environment now hold whatever is added. -/
theorem Facts.of {C : Ctx} {ρ : Env} {h : H} {w : World} (hh : ∀ e ∈ h.hp, BlkOk C ρ w e.1 e.2) (hn : (ownPhys ρ h.hp).Nodup)
    (hr : ∀ r ∈ h.rng, ∀ σ, r.2.1 ≤ (ρ.app σ).is.getD r.1 0 ∧ (ρ.app σ).is.getD r.1 0 ≤ r.2.2)
    (hd : ∀ d ∈ h.defs, ∀ σ, (ρ.app σ).is.getD d.1 0 = d.2.den (ρ.app σ).is (ρ.app σ).ls)
    (hl : ∀ r ∈ h.lrng, ∀ σ, ∀ x ∈ (ρ.app σ).ls.getD r.1 [], r.2.1 ≤ x ∧ x ≤ r.2.2) : ∀ σ, Facts C (ρ.app σ) h w := fun σ => by
  refine ⟨fun e he => (hh e he).app σ, ?_, fun r hr' => hr r hr' σ, fun d hd' => hd d hd' σ, fun r hr' => hl r hr' σ⟩
  rw [ownPhys_app fun e he => ⟨(hh e he).lt, (hh e he).inB⟩]
  exact hn

/-- Memory is changed: some blocks go (or change), others come; all else stays. -/
theorem RepH.change {C : Ctx} {ρ : Env} {h : H} {w w' : World} (r : RepH C ρ h w) (τ : Env) {drop : List Nat} {news : List (Nat × Blk)} {ni nl nb : Nat}
    (hni : ni = h.ni + τ.is.length) (hnl : nl = h.nl + τ.ls.length) (hnb : nb = h.nb + τ.bs.length)
    (hsize : w.heap.size ≤ w'.heap.size)
    (hsame : ∀ p, p < w.heap.size → (∀ e ∈ h.hp, drop.contains e.1 = true → p ∉ e.2.phys ρ e.1) → w'.heap[p]? = w.heap[p]?)
    (hos : w'.os = w.os) (hout : w'.output = w.output)
    (hnew : ∀ e ∈ news, BlkOk C (ρ.app τ) w' e.1 e.2) (hnod : (ownPhys (ρ.app τ) news).Nodup)
    (hfrom : ∀ p ∈ ownPhys (ρ.app τ) news, w.heap.size ≤ p ∨ ∃ e ∈ h.hp, drop.contains e.1 = true ∧ p ∈ e.2.phys ρ e.1) :
    RepH C (ρ.app τ) { h.swap drop news with ni := ni, nl := nl, nb := nb } w' := by
  have f := r.facts .nil
  rw [Env.app_nil] at f
  have hmine : ∀ e ∈ h.hp, ∀ p ∈ e.2.phys ρ e.1, C.mine p := fun e he => (f.heap e he).mine
  -- what is kept is not touched
  have hkept : ∀ e ∈ h.hp, (!drop.contains e.1) = true → ∀ p ∈ e.2.phys ρ e.1, w'.heap[p]? = w.heap[p]? := by
    intro e he hk p hp
    refine hsame p ((f.heap e he).physLt p hp) fun e' he' hd hp' => ?_
    have := flat_inj f.nodup he he' hp hp'
    subst this
    rw [hd] at hk
    cases hk
  have hblk : ∀ e ∈ (h.swap drop news).hp, BlkOk C (ρ.app τ) w' e.1 e.2 := by
    intro e he
    rcases List.mem_append.1 he with he | he
    · exact hnew e he
    · have he' := List.mem_filter.1 he
      exact ((f.heap e he'.1).keepP (hkept e he'.1 he'.2)).app τ
  refine ⟨by simp [Env.app, r.ni, hni], by simp [Env.app, r.nl, hnl], by simp [Env.app, r.nb, hnb],
    Facts.of hblk ?_ (fun q hq σ => ?_) (fun d hd σ => ?_) (fun q hq σ => ?_), ⟨Nat.le_trans r.frame.size hsize, fun q hq hno => ?_, hos.trans r.frame.os, hout.trans r.frame.output⟩⟩
  · have hold : ownPhys (ρ.app τ) (h.hp.filter fun e => !drop.contains e.1) = ownPhys ρ (h.hp.filter fun e => !drop.contains e.1) :=
      ownPhys_app fun e he => by
        have := f.heap e (List.mem_filter.1 he).1
        exact ⟨this.lt, this.inB⟩
    have : ownPhys (ρ.app τ) (h.swap drop news).hp = ownPhys (ρ.app τ) news ++ ownPhys ρ (h.hp.filter fun e => !drop.contains e.1) := by
      rw [← hold]; simp [ownPhys, H.swap]
    show (ownPhys (ρ.app τ) (h.swap drop news).hp).Nodup
    rw [this, List.nodup_append]
    refine ⟨hnod, flat_filter _ f.nodup, fun a ha b hb hab => ?_⟩
    subst hab
    obtain ⟨e, he, hbe⟩ := List.mem_flatMap.1 hb
    have he' := List.mem_filter.1 he
    rcases hfrom a ha with hs | ⟨e2, h2, hd2, hp2⟩
    · have := (f.heap e he'.1).physLt a hbe
      omega
    · have := flat_inj f.nodup he'.1 h2 hbe hp2
      subst this
      have hk := he'.2
      rw [hd2] at hk
      cases hk
  · have := (r.facts (τ.app σ)).rng q hq
    rw [← Env.app_assoc] at this; exact this
  · have := (r.facts (τ.app σ)).defs d hd
    rw [← Env.app_assoc] at this; exact this
  · have := (r.facts (τ.app σ)).lrng q hq
    rw [← Env.app_assoc] at this; exact this
  · have hlt : q < w.heap.size := Nat.lt_of_lt_of_le hq r.frame.size
    rw [hsame q hlt fun e he _ hp => ?_]
    · exact r.frame.old q hq hno
    · rcases hmine e he q hp with h1 | h1
      · omega
      · exact hno h1
/-- One owned block gets other contents. -/
theorem RepH.setBlk {C : Ctx} {ρ : Env} {h : H} {w w' : World} (r : RepH C ρ h w) {n : Nat} {b b' : Blk} (hb : h.blk n = some b) (hph : b'.phys ρ n = b.phys ρ n)
    (hsize : w'.heap.size = w.heap.size) (hother : ∀ q, q ∉ b.phys ρ n → w'.heap[q]? = w.heap[q]?) (hos : w'.os = w.os) (hout : w'.output = w.output)
    (hin : b'.inB ρ.is.length ρ.ls.length ρ.bs.length = true) (hnew : b'.holds C ρ w' n) : RepH C ρ (h.setBlk n b') w' := by
  have f := r.facts .nil
  rw [Env.app_nil] at f
  have hm := blk_mem hb
  have hok := f.heap _ hm
  have nod : (b.phys ρ n).Nodup := by
    cases b with
    | ro ks l len => exact List.nodup_nil
    | arr ks l len sz el => simp only [Blk.phys]; split <;> simp
    | _ => simp [Blk.phys]
  have := r.change .nil (w' := w') (drop := [n]) (news := [(n, b')]) (ni := h.ni) (nl := h.nl) (nb := h.nb) rfl rfl rfl (by omega)
    (fun p hp hno => hother p (hno _ hm (by simp))) hos hout
    (fun e he => by
      obtain rfl := List.mem_singleton.1 he
      rw [Env.app_nil]
      exact ⟨hok.lt, hin, by rw [hph]; exact hok.mine, hnew⟩)
    (by rw [Env.app_nil]; simp only [ownPhys, List.flatMap_cons, List.flatMap_nil, List.append_nil, hph]; exact nod)
    (fun p hp => .inr ⟨_, hm, by simp, by
      rw [Env.app_nil] at hp
      simpa only [ownPhys, List.flatMap_cons, List.flatMap_nil, List.append_nil, hph] using hp⟩)
  rw [Env.app_nil] at this
  exact this

theorem heap_alloc_lt (w : World) (o : Obj) {q : Nat} (hq : q < w.heap.size) : (w.alloc o).heap[q]? = w.heap[q]? := by
  show (w.heap.push o)[q]? = w.heap[q]?
  rw [Array.getElem?_push, if_neg (Nat.ne_of_lt hq)]
theorem heap_alloc_new (w : World) (o : Obj) : (w.alloc o).heap[w.heap.size]? = some o := by
  show (w.heap.push o)[w.heap.size]? = some o
  rw [Array.getElem?_push, if_pos rfl]
def Env.pushB (ρ : Env) (p : Nat) : Env := ρ.app ⟨[], [], [(p, 0)]⟩
theorem pushB_at (ρ : Env) (p : Nat) : (ρ.pushB p).b ρ.bs.length = (p, 0) := by
  simp [Env.pushB, Env.app, Env.b]
/-- A new block. -/
theorem RepH.alloc {C : Ctx} {ρ : Env} {h : H} {w : World} (r : RepH C ρ h w) {b : Blk} (o : Obj) (hph : b.phys (ρ.pushB w.heap.size) h.nb = [w.heap.size])
    (hin : b.inB ρ.is.length ρ.ls.length ρ.bs.length = true) (hb : b.holds C (ρ.pushB w.heap.size) (w.alloc o) h.nb) :
    RepH C (ρ.pushB w.heap.size) { h with hp := (h.nb, b) :: h.hp, nb := h.nb + 1 } (w.alloc o) := by
  have := r.change (w' := w.alloc o) ⟨[], [], [(w.heap.size, 0)]⟩ (drop := []) (news := [(h.nb, b)]) (ni := h.ni) (nl := h.nl) (nb := h.nb + 1) rfl rfl rfl
    (by rw [World.size_alloc]; omega) (fun p hp _ => heap_alloc_lt w o hp) rfl rfl
    (fun e he => by
      obtain rfl := List.mem_singleton.1 he
      have L := Env.le_len (Env.le_app ρ ⟨[], [], [(w.heap.size, 0)]⟩)
      refine ⟨by simp [Env.app, r.nb], Blk.inB_mono L.1 L.2.1 L.2.2 hin, fun p hp => ?_, hb⟩
      have hp' : p ∈ b.phys (ρ.pushB w.heap.size) h.nb := hp
      rw [hph] at hp'
      rw [List.mem_singleton.1 hp']
      exact .inl r.frame.size)
    (by
      have hp' : b.phys (ρ.app ⟨[], [], [(w.heap.size, 0)]⟩) h.nb = [w.heap.size] := hph
      simp only [ownPhys, List.flatMap_cons, List.flatMap_nil, List.append_nil, hp']
      simp)
    (fun p hp => by
      have hp' : b.phys (ρ.app ⟨[], [], [(w.heap.size, 0)]⟩) h.nb = [w.heap.size] := hph
      simp only [ownPhys, List.flatMap_cons, List.flatMap_nil, List.append_nil, hp', List.mem_singleton] at hp
      exact .inl (by omega))
  have e : { h.swap [] [(h.nb, b)] with ni := h.ni, nl := h.nl, nb := h.nb + 1 } = { h with hp := (h.nb, b) :: h.hp, nb := h.nb + 1 } := by
    simp [H.swap]
  rw [e] at this
  exact this
end Go.Sx
