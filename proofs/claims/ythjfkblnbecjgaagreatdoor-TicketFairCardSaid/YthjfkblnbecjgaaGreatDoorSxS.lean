/- A contract as a template, and its use at a call. -/
import Derived.Test.YthjfkblnbecjgaaGreatDoorSxR
set_option linter.unusedVariables false
namespace Go.Sx

structure FSpec where
  f : FuncId
  ni : Nat
  nl : Nat
  nb : Nat
  args : List SV
  hp : List (Nat × Blk)
  irng : List (Nat × Int × Int) := []
  ilrng : List (Nat × Int × Int) := []
  ri : Nat := 0
  rl : Nat := 0
  rb : Nat := 0
  res : SV
  hp' : List (Nat × Blk)
  orng : List (Nat × Int × Int) := []
  olrng : List (Nat × Int × Int) := []
  rel : Rel

def FSpec.H0 (s : FSpec) : H := { hp := s.hp, ni := s.ni, nl := s.nl, nb := s.nb, rng := s.irng, defs := [], lrng := s.ilrng }
def FSpec.H1 (s : FSpec) : H := { hp := s.hp', ni := s.ni + s.ri, nl := s.nl + s.rl, nb := s.nb + s.rb, rng := s.orng, defs := [], lrng := s.olrng }
def FSpec.ctx (s : FSpec) (ρ : Env) (w : World) (ro : List (Addr × Value)) : Ctx := ⟨w, ownPhys ρ s.hp, ro⟩

structure FSpec.Post (s : FSpec) (C : Ctx) (ρ : Env) (v : Value) (w' : World) (τ : Env) : Prop where
  li : τ.is.length = s.ri
  ll : τ.ls.length = s.rl
  lb : τ.bs.length = s.rb
  rel : s.rel.post ρ.is ρ.ls τ.is τ.ls
  val : SvIs (ρ.app τ) s.res v
  rep : RepH C (ρ.app τ) s.H1 w'
/-- The contract. -/
def FSpec.Holds (P : Program) (ro : List (Addr × Value)) (s : FSpec) : Prop :=
  ∀ (w : World) (ρ : Env), RoOk (s.ctx ρ w ro) ro → RepH (s.ctx ρ w ro) ρ s.H0 w → SV.oks ρ.is.length ρ.bs.length s.args = true → s.rel.pre ρ.is ρ.ls →
    Invokes P s.f (SV.dens ρ s.args).toArray w fun v w' => ∃ τ, s.Post (s.ctx ρ w ro) ρ v w' τ

mutual
theorem SV.ok_inst {θ : Sub} {ρ : Env} (hat : ∀ a : At, a.lt θ.is.length = true → (a.inst θ).lt ρ.is.length = true) (hbn : ∀ m, m < θ.bs.length → θ.bs.getD m 0 < ρ.bs.length) :
    ∀ x : SV, SV.ok θ.is.length θ.bs.length x = true → SV.ok ρ.is.length ρ.bs.length (SV.inst θ x) = true
  | .i k a, h => by simp only [SV.ok, SV.inst] at *; exact hat a h
  | .b a, h => by simp only [SV.ok, SV.inst] at *; exact hat a h
  | .nilp, _ => rfl
  | .ptr n o, h => by
    simp only [SV.ok, SV.inst, Bool.and_eq_true, decide_eq_true_eq] at *
    exact ⟨hbn n h.1, hat o h.2⟩
  | .slc n o l c, h => by
    simp only [SV.ok, SV.inst, Bool.and_eq_true, decide_eq_true_eq] at *
    exact ⟨hbn n h.1, hat o h.2.1, hat l h.2.2.1, hat c h.2.2.2⟩
  | .nils, _ => rfl
  | .raw _, _ => rfl
  | .iface _ x, h => by rw [SV.inst, SV.ok] at *; exact SV.ok_inst hat hbn x h
  | .agg xs, h => by rw [SV.inst, SV.ok] at *; exact SV.oks_inst hat hbn xs h
  | .tup xs, h => by rw [SV.inst, SV.ok] at *; exact SV.oks_inst hat hbn xs h
  | .fn _ xs, h => by rw [SV.inst, SV.ok] at *; exact SV.oks_inst hat hbn xs h
  | .vec n l c, h => by
    simp only [SV.ok, SV.inst, Bool.and_eq_true, decide_eq_true_eq] at *
    exact ⟨hbn n h.1, hat l h.2.1, hat c h.2.2⟩
  | .mapv n, h => by
    simp only [SV.ok, SV.inst, decide_eq_true_eq] at *
    exact hbn n h
theorem SV.oks_inst {θ : Sub} {ρ : Env} (hat : ∀ a : At, a.lt θ.is.length = true → (a.inst θ).lt ρ.is.length = true) (hbn : ∀ m, m < θ.bs.length → θ.bs.getD m 0 < ρ.bs.length) :
    ∀ xs : List SV, SV.oks θ.is.length θ.bs.length xs = true → SV.oks ρ.is.length ρ.bs.length (SV.insts θ xs) = true
  | [], _ => rfl
  | x :: xs, h => by
    simp only [SV.oks, SV.insts, Bool.and_eq_true] at *
    exact ⟨SV.ok_inst hat hbn x h.1, SV.oks_inst hat hbn xs h.2⟩
end
/-- The numbers of a substitution are in order. -/
structure Sub.In (θ : Sub) (ρ : Env) : Prop where
  is : θ.is.all (At.lt ρ.is.length) = true
  ls : ∀ l ∈ θ.ls, l < ρ.ls.length
  bs : ∀ l ∈ θ.bs, l < ρ.bs.length
theorem Sub.In.at {θ : Sub} {ρ : Env} (H : θ.In ρ) {a : At} (ha : a.lt θ.is.length = true) : (a.inst θ).lt ρ.is.length = true := by
  cases a with
  | c n => rfl
  | v i =>
    have hi : i < θ.is.length := by simpa [At.lt] using ha
    simp only [At.inst, List.getD, List.getElem?_eq_getElem hi, Option.getD_some]
    exact List.all_eq_true.1 H.is _ (List.getElem_mem hi)
theorem Sub.In.b {θ : Sub} {ρ : Env} (H : θ.In ρ) {m : Nat} (hm : m < θ.bs.length) : θ.bs.getD m 0 < ρ.bs.length := by
  simp only [List.getD, List.getElem?_eq_getElem hm, Option.getD_some]
  exact H.bs _ (List.getElem_mem hm)
theorem Sub.In.l {θ : Sub} {ρ : Env} (H : θ.In ρ) {m : Nat} (hm : m < θ.ls.length) : θ.ls.getD m 0 < ρ.ls.length := by
  simp only [List.getD, List.getElem?_eq_getElem hm, Option.getD_some]
  exact H.ls _ (List.getElem_mem hm)
theorem Sub.env_len (θ : Sub) (ρ : Env) : (θ.env ρ).is.length = θ.is.length ∧ (θ.env ρ).ls.length = θ.ls.length ∧ (θ.env ρ).bs.length = θ.bs.length := by simp [Sub.env]

theorem Blk.inB_inst {θ : Sub} {ρ : Env} (H : θ.In ρ) {b : Blk} (h : b.inB θ.is.length θ.ls.length θ.bs.length = true) : (b.inst θ).inB ρ.is.length ρ.ls.length ρ.bs.length = true := by
  have hat : ∀ a : At, a.lt θ.is.length = true → (a.inst θ).lt ρ.is.length = true := fun a ha => H.at ha
  have hbn : ∀ m, m < θ.bs.length → θ.bs.getD m 0 < ρ.bs.length := fun m hm => H.b hm
  cases b with
  | cells xs sz el => simp only [Blk.inB, Blk.inst, Bool.and_eq_true] at *; exact ⟨SV.oks_inst hat hbn xs h.1, hat _ h.2⟩
  | arr ks l len sz el => simp only [Blk.inB, Blk.inst, Bool.and_eq_true, decide_eq_true_eq] at *; exact ⟨H.l h.1, hat _ h.2.1, hat _ h.2.2⟩
  | ro ks l len => simp only [Blk.inB, Blk.inst, Bool.and_eq_true, decide_eq_true_eq] at *; exact ⟨H.l h.1, hat _ h.2⟩
  | map ks vs => simp only [Blk.inB, Blk.inst, Bool.and_eq_true] at *; exact ⟨SV.oks_inst hat hbn ks h.1, SV.oks_inst hat hbn vs h.2⟩
theorem Blk.phys_inst {θ : Sub} {ρ : Env} {n : Nat} {b : Blk} (hn : n < θ.bs.length) (h : b.inB θ.is.length θ.ls.length θ.bs.length = true) : (b.inst θ).phys ρ (θ.bs.getD n 0) = b.phys (θ.env ρ) n := by
  cases b with
  | cells xs sz el => simp only [Blk.phys, Blk.inst, inst_b hn]
  | arr ks l len sz el =>
    simp only [Blk.inB, Bool.and_eq_true, decide_eq_true_eq] at h
    simp only [Blk.phys, Blk.inst, inst_b hn, inst_at h.2.2]
  | ro ks l len => rfl
  | map ks vs => simp only [Blk.phys, Blk.inst, inst_b hn]
theorem Blk.holds_inst {C C' : Ctx} {θ : Sub} {ρ : Env} {w : World} {n : Nat} {b : Blk} (ho : b.owned = true) (hn : n < θ.bs.length) (h : b.inB θ.is.length θ.ls.length θ.bs.length = true) :
    (b.inst θ).holds C ρ w (θ.bs.getD n 0) ↔ b.holds C' (θ.env ρ) w n := by
  cases b with
  | cells xs sz el =>
    simp only [Blk.inB, Bool.and_eq_true] at h
    simp only [Blk.holds, Blk.inst, inst_b hn, inst_at h.2, inst_dens xs h.1]
  | arr ks l len sz el =>
    simp only [Blk.inB, Bool.and_eq_true, decide_eq_true_eq] at h
    simp only [Blk.holds, Blk.inst, inst_b hn, inst_at h.2.2, inst_at h.2.1, inst_l h.1]
  | ro ks l len => cases ho
  | map ks vs =>
    simp only [Blk.inB, Bool.and_eq_true] at h
    simp only [Blk.holds, Blk.inst, inst_b hn, inst_dens ks h.1, inst_dens vs h.2]
theorem ro_phys {b : Blk} (h : b.owned = false) (ρ : Env) (n : Nat) : b.phys ρ n = [] := by cases b <;> first | rfl | cases h
theorem owned_inst (θ : Sub) (b : Blk) : (b.inst θ).owned = b.owned := by cases b <;> rfl
/-- A block's instance holds where the block holds. -/
theorem BlkOk.inst {C C' : Ctx} {ρ : Env} {θ : Sub} {w : World} {n : Nat} {b : Blk} (hn : n < θ.bs.length) (hb : b.inB θ.is.length θ.ls.length θ.bs.length = true)
    (h : BlkOk C ρ w (θ.bs.getD n 0) (b.inst θ)) (hown : ∀ p ∈ (b.inst θ).phys ρ (θ.bs.getD n 0), C'.mine p)
    (hro : b.owned = false → (ρ.b (θ.bs.getD n 0)).1 < C'.w0.heap.size ∧ (ρ.b (θ.bs.getD n 0)).1 ∉ C'.own ∧ ∀ a : Addr, a.block = (ρ.b (θ.bs.getD n 0)).1 → ∀ v, C.w0.cell? a = some v → C'.w0.cell? a = some v) :
    BlkOk C' (θ.env ρ) w n b := by
  obtain ⟨l1, l2, l3⟩ := Sub.env_len θ ρ
  refine ⟨by rw [l3]; exact hn, by rw [l1, l2, l3]; exact hb, by rw [← Blk.phys_inst hn hb]; exact hown, ?_⟩
  cases ho : b.owned with
  | true => exact (Blk.holds_inst ho hn hb).1 h.holds
  | false =>
    have hh := h.holds
    have hr := hro ho
    cases b <;> simp only [Blk.owned] at ho <;> try (cases ho; done)
    rename_i ks l len
    simp only [Blk.inB, Bool.and_eq_true, decide_eq_true_eq] at hb
    simp only [Blk.holds, Blk.inst] at hh ⊢
    rw [inst_b hn, inst_l hb.1, inst_at hb.2]
    exact ⟨hr.1, hr.2.1, fun j hj => hr.2.2 _ rfl _ (hh.2.2.1 j hj), hh.2.2.2⟩
/-- And the other way. -/
theorem BlkOk.uninst {C C' : Ctx} {ρ : Env} {θ : Sub} {w : World} {n : Nat} {b : Blk} (ho : b.owned = true) (h : BlkOk C (θ.env ρ) w n b) (H : θ.In ρ)
    (hown : ∀ p ∈ b.phys (θ.env ρ) n, C.mine p → C'.mine p) : BlkOk C' ρ w (θ.bs.getD n 0) (b.inst θ) := by
  obtain ⟨l1, l2, l3⟩ := Sub.env_len θ ρ
  have hn := h.lt
  have hb := h.inB
  rw [l3] at hn
  rw [l1, l2, l3] at hb
  exact ⟨H.b hn, Blk.inB_inst H hb, by rw [Blk.phys_inst hn hb]; exact fun p hp => hown p hp (h.mine p hp), (Blk.holds_inst ho hn hb).2 h.holds⟩

theorem flat_one {α β : Type} {f : α → List β} : ∀ {l : List α}, (l.flatMap f).Nodup → ∀ {a : α}, a ∈ l → (f a).Nodup
  | [], _, _, h => by cases h
  | x :: l, hn, a, ha => by
    simp only [List.flatMap_cons, List.nodup_append] at hn
    rcases List.mem_cons.1 ha with rfl | ha
    · exact hn.1
    · exact flat_one hn.2.1 ha
/-- Blocks of the memory, each once, own places each once. -/
theorem phys_sub {ρ : Env} {L : List (Nat × Blk)} (hL : (ownPhys ρ L).Nodup) : ∀ {l : List (Nat × Blk)}, (∀ e ∈ l, e ∈ L) → ((l.filter (·.2.owned)).map (·.1)).Nodup → (ownPhys ρ l).Nodup
  | [], _, _ => List.nodup_nil
  | e :: l, hm, hn => by
    have ih := phys_sub hL (l := l) fun x hx => hm x (List.mem_cons_of_mem _ hx)
    unfold ownPhys at *
    rw [List.flatMap_cons]
    cases ho : e.2.owned with
    | false =>
      rw [ro_phys ho, List.nil_append]
      refine ih ?_
      rwa [List.filter_cons, if_neg (by simp [ho])] at hn
    | true =>
      rw [List.filter_cons, if_pos ho, List.map_cons, List.nodup_cons] at hn
      rw [List.nodup_append]
      refine ⟨flat_one hL (hm e (List.mem_cons_self ..)), ih hn.2, fun a ha b hb hab => ?_⟩
      subst hab
      obtain ⟨e', he', hp'⟩ := List.mem_flatMap.1 hb
      have := flat_inj hL (hm e (List.mem_cons_self ..)) (hm e' (List.mem_cons_of_mem _ he')) ha hp'
      subst this
      exact hn.1 (List.mem_map.2 ⟨e, List.mem_filter.2 ⟨he', ho⟩, rfl⟩)
theorem ownPhys_inst {θ : Sub} {ρ : Env} : ∀ {hp : List (Nat × Blk)}, (∀ e ∈ hp, e.1 < θ.bs.length ∧ e.2.inB θ.is.length θ.ls.length θ.bs.length = true) →
    ownPhys ρ (hp.map fun e => (θ.bs.getD e.1 0, e.2.inst θ)) = ownPhys (θ.env ρ) hp
  | [], _ => rfl
  | e :: l, h => by
    have := h e (List.mem_cons_self ..)
    have ih := ownPhys_inst (θ := θ) (ρ := ρ) (hp := l) fun x hx => h x (List.mem_cons_of_mem _ hx)
    unfold ownPhys at *
    rw [List.map_cons, List.flatMap_cons, List.flatMap_cons, ih, Blk.phys_inst this.1 this.2]
/-- More ranges. -/
theorem RepH.ranges {C : Ctx} {ρ : Env} {h : H} {w : World} (r : RepH C ρ h w) {rng : List (Nat × Int × Int)} {lrng : List (Nat × Int × Int)}
    (h1 : ∀ q ∈ rng, q.1 < ρ.is.length ∧ q.2.1 ≤ ρ.is.getD q.1 0 ∧ ρ.is.getD q.1 0 ≤ q.2.2) (h2 : ∀ q ∈ lrng, q.1 < ρ.ls.length ∧ ∀ x ∈ ρ.ls.getD q.1 [], q.2.1 ≤ x ∧ x ≤ q.2.2) :
    RepH C ρ { h with rng := rng ++ h.rng, lrng := lrng ++ h.lrng } w := by
  refine ⟨r.ni, r.nl, r.nb, fun σ => ?_, r.frame⟩
  have f := r.facts σ
  refine ⟨f.heap, f.nodup, fun q hq => ?_, f.defs, fun q hq => ?_⟩
  · rcases List.mem_append.1 hq with hq | hq
    · have := h1 q hq
      rw [show (ρ.app σ).is.getD q.1 0 = ρ.is.getD q.1 0 from getD_app this.1]
      exact this.2
    · exact f.rng q hq
  · rcases List.mem_append.1 hq with hq | hq
    · have := h2 q hq
      rw [show (ρ.app σ).ls.getD q.1 [] = ρ.ls.getD q.1 [] from getD_app this.1]
      exact this.2
    · exact f.lrng q hq
end Go.Sx
