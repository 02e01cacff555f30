/- The use of a contract at a call is sound. -/
import Derived.Test.YtgkinefofnlnlaaDoorSxS
set_option linter.unusedVariables false
namespace Go.Sx

def Blk.okIn (ni nl nb : Nat) : Blk → Bool
  | .cells xs _ => SV.oks ni nb xs
  | .arr _ l len _ => decide (l < nl) && len.lt ni
  | .ro _ l len => decide (l < nl) && len.lt ni
def nodupB : List Nat → Bool
  | [] => true
  | x :: l => !l.contains x && nodupB l
theorem nodupB_ok : ∀ {l : List Nat}, nodupB l = true → l.Nodup
  | [], _ => List.nodup_nil
  | x :: l, h => by
    simp only [nodupB, Bool.and_eq_true, Bool.not_eq_true', List.contains_eq_mem, decide_eq_false_iff_not] at h
    exact List.nodup_cons.2 ⟨h.1, nodupB_ok h.2⟩
/-- The template's numbers are in order. -/
def FSpec.wf (s : FSpec) : Bool :=
  SV.oks s.ni s.nb s.args && (s.hp.all (fun e => decide (e.1 < s.nb) && e.2.okIn s.ni s.nl s.nb) && (s.hp'.all (fun e => decide (e.1 < s.nb + s.rb) && (e.2.okIn (s.ni + s.ri) (s.nl + s.rl) (s.nb + s.rb) && e.2.owned)) &&
  (SV.ok (s.ni + s.ri) (s.nb + s.rb) s.res && (s.irng.all (fun r => decide (r.1 < s.ni)) && (s.ilrng.all (fun r => decide (r.1 < s.nl)) && (s.orng.all (fun r => decide (r.1 < s.ni + s.ri)) && s.olrng.all (fun r => decide (r.1 < s.nl + s.rl))))))))

def rangeNeeds (θ : Sub) : List (Nat × Int × Int) → M Unit
  | [] => pure ()
  | r :: rest => do
    need .geq ((At.v r.1).inst θ) (.c r.2.1)
    need .leq ((At.v r.1).inst θ) (.c r.2.2)
    rangeNeeds θ rest
def Sub.more (θ : Sub) (h : H) (ri rl rb : Nat) : Sub := ⟨θ.is ++ (List.range ri).map fun j => .v (h.ni + j), θ.ls ++ (List.range rl).map (h.nl + ·), θ.bs ++ (List.range rb).map (h.nb + ·)⟩
def newName (b : Nat) (n j : Nat) : Nat := n + (j - b)
def FSpec.after (s : FSpec) (θ θ' : Sub) (h : H) : H :=
  { hp := (s.hp'.map fun e => (θ'.bs.getD e.1 0, e.2.inst θ')) ++ h.hp.filter (fun e => !((s.hp.filter (·.2.owned)).map fun e => θ.bs.getD e.1 0).contains e.1),
    ni := h.ni + s.ri, nl := h.nl + s.rl, nb := h.nb + s.rb,
    rng := ((s.orng.filter fun r => decide (s.ni ≤ r.1)).map fun r => (h.ni + (r.1 - s.ni), r.2)) ++ h.rng,
    defs := h.defs,
    lrng := ((s.olrng.filter fun r => decide (s.nl ≤ r.1)).map fun r => (h.nl + (r.1 - s.nl), r.2)) ++ h.lrng }
def FSpec.guess (s : FSpec) (args : List SV) (h : H) : Sub := ((Gs.svs ⟨[], [], []⟩ s.args args).hp h s.hp).sub s.ni s.nl s.nb
def FSpec.fits (s : FSpec) (args : List SV) (h : H) (θ : Sub) : Bool :=
  s.wf && (svsEq (SV.insts θ s.args) args && (s.hp.all (fun e => match h.blk (θ.bs.getD e.1 0) with | some b => blkEq (e.2.inst θ) b | none => false) &&
    (nodupB ((s.hp.filter (·.2.owned)).map fun e => θ.bs.getD e.1 0) && (θ.is.all (At.lt h.ni) && (θ.ls.all (fun l => decide (l < h.nl)) && (θ.bs.all (fun l => decide (l < h.nb)) &&
    (decide (θ.is.length = s.ni) && (decide (θ.ls.length = s.nl) && (decide (θ.bs.length = s.nb) && s.ilrng.all (fun r => inside (h.lrange (θ.ls.getD r.1 0)) (some r.2)))))))))))
def FSpec.run (s : FSpec) (args : List SV) : M SV := fun h k =>
  let θ := s.guess args h
  if s.fits args h θ then
    rangeNeeds θ s.irng h fun _ h1 =>
      let θ' := θ.more h1 s.ri s.rl s.rb
      .call s.rel θ.is θ.ls s.ri s.rl (k (s.res.inst θ') (s.after θ θ' h1))
  else .fail 170
def FSpec.spec (s : FSpec) : Spec := ⟨s.f, s.run⟩

theorem rangeNeeds_spec {Φ : Phi} {C : Ctx} {w : World} {θ : Sub} : ∀ (l : List (Nat × Int × Int)) {ρ : Env} {h : H}, θ.is.all (At.lt ρ.is.length) = true →
    MSpec Φ C (rangeNeeds θ l) ρ h w fun _ ρ' h' w' => w' = w ∧ h'.hp = h.hp ∧ h'.lrng = h.lrng ∧ ρ' = ρ ∧ ∀ r ∈ l, r.2.1 ≤ ((At.v r.1).inst θ).den ρ.is ∧ ((At.v r.1).inst θ).den ρ.is ≤ r.2.2
  | [], ρ, h, hθ => MSpec.ret ⟨rfl, rfl, rfl, rfl, fun r hr => by cases hr⟩
  | q :: rest, ρ, h, hθ => by
    have hat : AtIs ρ ((At.v q.1).inst θ) (((At.v q.1).inst θ).den ρ.is) := by
      refine ⟨?_, rfl⟩
      simp only [At.inst]
      by_cases hi : q.1 < θ.is.length
      · simp only [List.getD, List.getElem?_eq_getElem hi, Option.getD_some]
        exact List.all_eq_true.1 hθ _ (List.getElem_mem hi)
      · simp [List.getD, List.getElem?_eq_none (Nat.ge_of_not_lt hi), At.lt]
    unfold rangeNeeds
    refine (need_spec' hat (AtIs.c ρ q.2.1)).bind ?_
    rintro _ ρ1 h1 w1 l1 ⟨rfl, hp1, hl1, er1, c1⟩
    refine (need_spec' (hat.mono l1) (AtIs.c ρ1 q.2.2)).bind ?_
    rintro _ ρ2 h2 w2 l2 ⟨rfl, hp2, hl2, er2, c2⟩
    have l12 := Env.le_trans l1 l2
    have hθ2 : θ.is.all (At.lt ρ2.is.length) = true := List.all_eq_true.2 fun x hx => At.lt_mono (List.all_eq_true.1 hθ x hx) (Env.le_len l12).1
    refine (rangeNeeds_spec rest hθ2).mono ?_
    rintro _ ρ3 h3 w3 l3 ⟨rfl, hp3, hl3, er3, hr⟩
    simp only [cmpB, decide_eq_true_eq] at c1 c2
    refine ⟨rfl, by rw [hp3, hp2, hp1], by rw [hl3, hl2, hl1], by rw [er3, er2, er1], fun r hr' => ?_⟩
    rcases List.mem_cons.1 hr' with rfl | hr'
    · exact ⟨c1, c2⟩
    · have := hr r hr'
      have e : ((At.v r.1).inst θ).den ρ2.is = ((At.v r.1).inst θ).den ρ.is := by
        obtain ⟨τ, rfl⟩ := l12
        refine At.den_app ?_
        simp only [At.inst]
        by_cases hi : r.1 < θ.is.length
        · simp only [List.getD, List.getElem?_eq_getElem hi, Option.getD_some]
          exact List.all_eq_true.1 hθ _ (List.getElem_mem hi)
        · simp [List.getD, List.getElem?_eq_none (Nat.ge_of_not_lt hi), At.lt]
      rw [e] at this; exact this

theorem map_range_getD {α : Type} (l m : List α) (d : α) : (List.range m.length).map (fun j => (l ++ m).getD (l.length + j) d) = m := by
  apply List.ext_getElem?
  intro i
  by_cases hi : i < m.length
  · simp [hi, List.getD]
  · rw [List.getElem?_eq_none (by simpa using hi), List.getElem?_eq_none (by simpa using hi)]

theorem more_env {θ : Sub} {ρ : Env} {h : H} {τ : Env} (h1 : ρ.is.length = h.ni) (h2 : ρ.ls.length = h.nl) (h3 : ρ.bs.length = h.nb)
    (hθ : θ.is.all (At.lt ρ.is.length) = true) (hθl : ∀ l ∈ θ.ls, l < ρ.ls.length) (hθb : ∀ l ∈ θ.bs, l < ρ.bs.length) :
    (θ.more h τ.is.length τ.ls.length τ.bs.length).env (ρ.app τ) = (θ.env ρ).app τ := by
  unfold Sub.env Sub.more Env.app
  simp only [List.map_append, List.map_map, Env.mk.injEq]
  refine ⟨?_, ?_, ?_⟩
  · congr 1
    · exact List.map_congr_left fun a ha => At.den_app (List.all_eq_true.1 hθ a ha)
    · rw [← h1]; exact map_range_getD ρ.is τ.is 0
  · congr 1
    · exact List.map_congr_left fun a ha => getD_app (hθl a ha)
    · rw [← h2]; exact map_range_getD ρ.ls τ.ls []
  · congr 1
    · exact List.map_congr_left fun a ha => getD_app (hθb a ha)
    · rw [← h3]; exact map_range_getD ρ.bs τ.bs (0, 0)

theorem Invokes.mono {P : Program} {f : FuncId} {vs : Array Value} {w : World} {K K' : Value → World → Prop} (h : Invokes P f vs w K) (hk : ∀ v w', K v w' → K' v w') : Invokes P f vs w K' := by
  unfold Invokes at *
  split
  · rename_i e; rw [e] at h; exact hk _ _ h
  · rename_i e; rw [e] at h; exact h.mono fun e w'' ⟨v, hv, hK⟩ => ⟨v, hv, hk _ _ hK⟩
  · rename_i e; rw [e] at h; exact Rows.mono h hk
  · rename_i h1 h2 h3
    split at h
    · rename_i e; exact h1 _ _ e
    · rename_i e; exact h2 _ _ _ e
    · rename_i e; exact h3 _ _ _ e
    · exact h
theorem FSpec.spec_ok {P : Program} {ro : List (Addr × Value)} {s : FSpec} (hs : s.Holds P ro) : s.spec.Ok P ro := by
  intro Φ C ρ h w args k K hro hok r hd hk
  unfold FSpec.spec FSpec.run at hd
  simp only at hd
  split at hd
  case isFalse => exact hd.elim
  rename_i hfit
  generalize hθ : s.guess args h = θ at hd hfit
  simp only [FSpec.fits, Bool.and_eq_true, decide_eq_true_eq] at hfit
  obtain ⟨hwf, hargs, hblks, hnod, hθi, hθl, hθb, hli, hll, hlb, hlr⟩ := hfit
  simp only [FSpec.wf, Bool.and_eq_true] at hwf
  obtain ⟨wa, wh, wh', wr, wir, wil, wor, wol⟩ := hwf
  have hargs' := svsEq_eq hargs
  have hθi' : θ.is.all (At.lt ρ.is.length) = true := by rw [r.ni]; exact hθi
  have hθl' : ∀ l ∈ θ.ls, l < ρ.ls.length := fun l hl => by rw [r.nl]; exact of_decide_eq_true (List.all_eq_true.1 hθl l hl)
  have hθb' : ∀ l ∈ θ.bs, l < ρ.bs.length := fun l hl => by rw [r.nb]; exact of_decide_eq_true (List.all_eq_true.1 hθb l hl)
  obtain ⟨_, ρ1, h1, w1, l1, r1, d1, e1, hp1, hlr1, _, hrg⟩ := rangeNeeds_spec (Φ := Φ) (C := C) (w := w) s.irng hθi' r _ hd
  subst e1
  simp only [Tree.den] at d1
  obtain ⟨dpre, dpost⟩ := d1
  -- the callee's environment
  have hθi1 : θ.is.all (At.lt ρ1.is.length) = true := List.all_eq_true.2 fun x hx => At.lt_mono (List.all_eq_true.1 hθi' x hx) (Env.le_len l1).1
  have hθl1 : ∀ l ∈ θ.ls, l < ρ1.ls.length := fun l hl => by have := hθl' l hl; have := (Env.le_len l1).2.1; omega
  have hθb1 : ∀ l ∈ θ.bs, l < ρ1.bs.length := fun l hl => by have := hθb' l hl; have := (Env.le_len l1).2.2; omega
  have f1 := r1.fact
  have L1 : (θ.env ρ1).is.length = s.ni := by simp [Sub.env, hli]
  have L2 : (θ.env ρ1).ls.length = s.nl := by simp [Sub.env, hll]
  have L3 : (θ.env ρ1).bs.length = s.nb := by simp [Sub.env, hlb]
  have hbn : ∀ e ∈ s.hp, e.1 < θ.bs.length := fun e he => by
    have := List.all_eq_true.1 wh e he
    simp only [Bool.and_eq_true, decide_eq_true_eq] at this
    rw [hlb]; exact this.1
  have hblk : ∀ e ∈ s.hp, h1.blk (θ.bs.getD e.1 0) = some (e.2.inst θ) := fun e he => by
    have := List.all_eq_true.1 hblks e he
    have hh : h1.blk (θ.bs.getD e.1 0) = h.blk (θ.bs.getD e.1 0) := by unfold H.blk; rw [hp1]
    rw [hh]
    cases eb : h.blk (θ.bs.getD e.1 0) with
    | none => rw [eb] at this; cases this
    | some b => rw [eb] at this; rw [blkEq_eq this]
  have hBk : ∀ e ∈ s.hp, BlkOk C ρ1 w1 (θ.bs.getD e.1 0) (e.2.inst θ) := fun e he => f1.heap _ (blk_mem (hblk e he))
  have hinso : ∀ b : Blk, (b.inst θ).owned = b.owned := fun b => by cases b <;> rfl
  have hphys : ownPhys (θ.env ρ1) s.hp = (s.hp.filter (·.2.owned)).map fun e => (ρ1.b (θ.bs.getD e.1 0)).1 :=
    List.map_congr_left fun e he => by rw [inst_b (hbn e (List.mem_filter.1 he).1)]
  have hownMem : ∀ p ∈ ownPhys (θ.env ρ1) s.hp, ∃ e ∈ s.hp, e.2.owned = true ∧ p = (ρ1.b (θ.bs.getD e.1 0)).1 ∧ (θ.bs.getD e.1 0, e.2.inst θ) ∈ h1.hp.filter (·.2.owned) := by
    intro p hp
    rw [hphys] at hp
    obtain ⟨e, he, rfl⟩ := List.mem_map.1 hp
    obtain ⟨he1, he2⟩ := List.mem_filter.1 he
    exact ⟨e, he1, he2, rfl, List.mem_filter.2 ⟨blk_mem (hblk e he1), by rw [hinso]; exact he2⟩⟩
  have hownC : ∀ p ∈ ownPhys (θ.env ρ1) s.hp, p < w1.heap.size ∧ (C.w0.heap.size ≤ p ∨ p ∈ C.own) := by
    intro p hp
    obtain ⟨e, he1, he2, rfl, _⟩ := hownMem p hp
    exact (hBk e he1).phys (by rw [hinso]; exact he2)
  have hro_c : RoOk (s.ctx (θ.env ρ1) w1 ro) ro := by
    intro p hp
    have := hro p hp
    refine ⟨r1.frame.cell this.2.1 this.2.2 this.1, Nat.lt_of_lt_of_le this.2.1 r1.frame.size, fun hmem => ?_⟩
    rcases (hownC _ hmem).2 with hh | hh
    · have := this.2.1; omega
    · exact this.2.2 hh
  have hrep_c : RepH (s.ctx (θ.env ρ1) w1 ro) (θ.env ρ1) s.H0 w1 := by
    refine ⟨L1, L2, L3, Facts.of (fun e he => ?_) ?_ (fun q hq => ?_) (fun d hd => by cases hd) (fun q hq => ?_), ⟨Nat.le_refl _, fun _ _ _ => rfl, rfl, rfl⟩⟩
    · have hw := List.all_eq_true.1 wh e he
      simp only [Bool.and_eq_true, decide_eq_true_eq] at hw
      refine BlkOk.inst (C := C) (hbn e he) ?_ (hBk e he) (fun ho => .inr ?_) (fun ho => ?_)
      · have hh := hw.2
        obtain ⟨n, b⟩ := e
        cases b <;> simp only [Blk.okIn, ← hli, ← hlb, ← hll] at hh <;> exact hh
      · show (ρ1.b (θ.bs.getD e.1 0)).1 ∈ ownPhys (θ.env ρ1) s.hp
        rw [hphys]
        exact List.mem_map.2 ⟨e, List.mem_filter.2 ⟨he, ho⟩, rfl⟩
      · have hb := hBk e he
        obtain ⟨n, b⟩ := e
        cases b <;> simp only [Blk.owned] at ho <;> try (cases ho; done)
        simp only [Blk.inst, BlkOk] at hb
        refine ⟨Nat.lt_of_lt_of_le hb.2.2.2.1 r1.frame.size, fun hmem => ?_, fun a ha v hv => r1.frame.cell (by rw [ha]; exact hb.2.2.2.1) (by rw [ha]; exact hb.2.2.2.2.1) hv⟩
        rcases (hownC _ hmem).2 with hh | hh
        · exact absurd hb.2.2.2.1 (Nat.not_lt.2 hh)
        · exact hb.2.2.2.2.1 hh
    · show (ownPhys (θ.env ρ1) s.hp).Nodup
      rw [hphys]
      have hn0 := nodupB_ok hnod
      have inj : ∀ l : List (Nat × Blk), (∀ e ∈ l, e ∈ s.hp ∧ e.2.owned = true) → (l.map fun e => θ.bs.getD e.1 0).Nodup → (l.map fun e => (ρ1.b (θ.bs.getD e.1 0)).1).Nodup := by
        intro l
        induction l with
        | nil => intro _ _; exact List.nodup_nil
        | cons e l ih =>
          intro hl hnd
          simp only [List.map_cons, List.nodup_cons] at hnd ⊢
          refine ⟨fun hmem => ?_, ih (fun x hx => hl x (List.mem_cons_of_mem _ hx)) hnd.2⟩
          obtain ⟨e', he', heq⟩ := List.mem_map.1 hmem
          have g1 := hl e (List.mem_cons_self ..)
          have g2 := hl e' (List.mem_cons_of_mem _ he')
          have := nodup_inj f1.nodup (a := (θ.bs.getD e'.1 0, e'.2.inst θ)) (b := (θ.bs.getD e.1 0, e.2.inst θ))
            (List.mem_filter.2 ⟨blk_mem (hblk e' g2.1), by rw [hinso]; exact g2.2⟩) (List.mem_filter.2 ⟨blk_mem (hblk e g1.1), by rw [hinso]; exact g1.2⟩) heq
          apply hnd.1
          refine List.mem_map.2 ⟨e', he', ?_⟩
          exact (Prod.mk.inj this).1
      exact inj _ (fun e he => List.mem_filter.1 he) hn0
    · have hw := of_decide_eq_true (List.all_eq_true.1 wir q hq)
      intro σ
      rw [show ((θ.env ρ1).app σ).is.getD q.1 0 = (θ.env ρ1).is.getD q.1 0 from getD_app (by rw [L1]; exact hw)]
      have := hrg q hq
      have e2 : (θ.env ρ1).is.getD q.1 0 = ((At.v q.1).inst θ).den ρ1.is := inst_at (a := .v q.1) (by simp [At.lt, hli, hw])
      have e3 : ((At.v q.1).inst θ).den ρ1.is = ((At.v q.1).inst θ).den ρ.is := by
        obtain ⟨τ, rfl⟩ := l1
        refine At.den_app ?_
        have hi : q.1 < θ.is.length := by rw [hli]; exact hw
        simp only [At.inst, List.getD, List.getElem?_eq_getElem hi, Option.getD_some]
        exact List.all_eq_true.1 hθi' _ (List.getElem_mem hi)
      rw [e2, e3]; exact this
    · have hw := of_decide_eq_true (List.all_eq_true.1 wil q hq)
      intro σ x hx
      rw [show ((θ.env ρ1).app σ).ls.getD q.1 [] = (θ.env ρ1).ls.getD q.1 [] from getD_app (by rw [L2]; exact hw)] at hx
      rw [inst_l (by rw [hll]; exact hw)] at hx
      have hin := List.all_eq_true.1 hlr q hq
      have hl1' : h1.lrange (θ.ls.getD q.1 0) = h.lrange (θ.ls.getD q.1 0) := by unfold H.lrange; rw [hlr1]
      rw [← hl1'] at hin
      exact inside_ok hin (lrange_ok f1 _ x hx)
  have hokc : SV.oks (θ.env ρ1).is.length (θ.env ρ1).bs.length s.args = true := by rw [L1, L3]; exact wa
  have hargsden : SV.dens (θ.env ρ1) s.args = SV.dens ρ args := by
    rw [inst_dens s.args (by rw [hli, hlb]; exact wa), hargs']
    obtain ⟨τ, rfl⟩ := l1
    exact SV.dens_app args hok
  have hcall := hs w1 (θ.env ρ1) hro_c hrep_c hokc (by simpa [Sub.env] using dpre)
  rw [hargsden] at hcall
  refine Invokes.mono hcall ?_
  rintro v w' ⟨τ, hP⟩
  have hmore := more_env (θ := θ) (ρ := ρ1) (h := h1) (τ := τ) r1.ni r1.nl r1.nb hθi1 hθl1 hθb1
  rw [hP.li, hP.ll, hP.lb] at hmore
  have dfin := dpost τ.is τ.ls hP.li hP.ll (by simpa [Sub.env] using hP.rel)
  generalize hθ' : θ.more h1 s.ri s.rl s.rb = θ' at hmore dfin
  have M1 : θ'.is.length = s.ni + s.ri := by rw [← hθ']; simp [Sub.more, hli]
  have M2 : θ'.ls.length = s.nl + s.rl := by rw [← hθ']; simp [Sub.more, hll]
  have M3 : θ'.bs.length = s.nb + s.rb := by rw [← hθ']; simp [Sub.more, hlb]
  have hlei : (ρ1.app τ).is.length = h1.ni + s.ri := by simp [Env.app, r1.ni, hP.li]
  have hlel : (ρ1.app τ).ls.length = h1.nl + s.rl := by simp [Env.app, r1.nl, hP.ll]
  have hleb : (ρ1.app τ).bs.length = h1.nb + s.rb := by simp [Env.app, r1.nb, hP.lb]
  have hθi2 : θ'.is.all (At.lt (ρ1.app τ).is.length) = true := by
    rw [← hθ']
    refine List.all_eq_true.2 fun x hx => ?_
    simp only [Sub.more, List.mem_append, List.mem_map, List.mem_range] at hx
    rcases hx with hx | ⟨j, hj, rfl⟩
    · exact At.lt_mono (List.all_eq_true.1 hθi1 x hx) (Env.le_len (Env.le_app ρ1 τ)).1
    · simp [At.lt, hlei, hj]
  have hθl2 : ∀ l ∈ θ'.ls, l < (ρ1.app τ).ls.length := by
    rw [← hθ']
    intro l hl
    simp only [Sub.more, List.mem_append, List.mem_map, List.mem_range] at hl
    rcases hl with hl | ⟨j, hj, rfl⟩
    · have := hθl1 l hl; rw [hlel]; rw [r1.nl] at this; omega
    · rw [hlel]; omega
  have hθb2 : ∀ l ∈ θ'.bs, l < (ρ1.app τ).bs.length := by
    rw [← hθ']
    intro l hl
    simp only [Sub.more, List.mem_append, List.mem_map, List.mem_range] at hl
    rcases hl with hl | ⟨j, hj, rfl⟩
    · have := hθb1 l hl; rw [hleb]; rw [r1.nb] at this; omega
    · rw [hleb]; omega
  have hres : SvIs (ρ1.app τ) (SV.inst θ' s.res) v := by
    have hv := hP.val
    refine ⟨SV.ok_inst (θ := θ') (ρ := ρ1.app τ) ?_ ?_ s.res (by rw [M1, M3]; exact wr), ?_⟩
    · intro a ha
      cases a with
      | c n => rfl
      | v i =>
        have hi : i < θ'.is.length := by simpa [At.lt] using ha
        simp only [At.inst, List.getD, List.getElem?_eq_getElem hi, Option.getD_some]
        exact List.all_eq_true.1 hθi2 _ (List.getElem_mem hi)
    · intro m hm
      simp only [List.getD, List.getElem?_eq_getElem hm, Option.getD_some]
      exact hθb2 _ (List.getElem_mem hm)
    · rw [← inst_den s.res (by rw [M1, M3]; exact wr), hmore]; exact hv.2
  refine hk _ (ρ1.app τ) _ v w' (Env.le_trans l1 (Env.le_app ρ1 τ)) ?_ hres dfin
  -- the caller's memory behind the call
  have fc := hP.rep.fact
  have keptPhys : ∀ e ∈ h1.hp, e.2.owned = true → ((s.hp.filter (·.2.owned)).map fun e => θ.bs.getD e.1 0).contains e.1 = false → (ρ1.b e.1).1 < w1.heap.size ∧ (ρ1.b e.1).1 ∉ ownPhys (θ.env ρ1) s.hp := by
    intro e he ho hc
    refine ⟨((f1.heap e he).phys ho).1, fun hmem => ?_⟩
    obtain ⟨e', he1', he2', heq, hmem'⟩ := hownMem _ hmem
    have := nodup_inj f1.nodup (a := e) (b := (θ.bs.getD e'.1 0, e'.2.inst θ)) (List.mem_filter.2 ⟨he, ho⟩) hmem' heq
    have hcc : ((s.hp.filter (·.2.owned)).map fun e => θ.bs.getD e.1 0).contains e.1 = true := by
      rw [List.contains_eq_mem, decide_eq_true_eq]
      refine List.mem_map.2 ⟨e', List.mem_filter.2 ⟨he1', he2'⟩, ?_⟩
      rw [this]
    rw [hcc] at hc; cases hc
  have newPhys : ∀ e ∈ s.hp', (w1.heap.size ≤ ((θ'.env (ρ1.app τ)).b e.1).1 ∨ ((θ'.env (ρ1.app τ)).b e.1).1 ∈ ownPhys (θ.env ρ1) s.hp) ∧ e.1 < θ'.bs.length := by
    intro e he
    have hw := List.all_eq_true.1 wh' e he
    simp only [Bool.and_eq_true, decide_eq_true_eq] at hw
    have hb := fc.heap e he
    have := (hb.phys hw.2.2).2
    rw [hmore]
    exact ⟨this, by rw [M3]; exact hw.1⟩
  have frameC : Frame C w' := by
    have fr := hP.rep.frame
    refine ⟨Nat.le_trans r1.frame.size fr.size, fun b hb hno => ?_, fr.os.trans r1.frame.os, fr.output.trans r1.frame.output⟩
    rw [← r1.frame.old b hb hno]
    refine fr.old b (Nat.lt_of_lt_of_le hb r1.frame.size) fun hmem => ?_
    rcases (hownC b hmem).2 with hh | hh
    · omega
    · exact hno hh
  have heapAll : ∀ e ∈ (s.after θ θ' h1).hp, BlkOk C (ρ1.app τ) w' e.1 e.2 := by
    intro e he
    simp only [FSpec.after, List.mem_append, List.mem_map, List.mem_filter, Bool.not_eq_true'] at he
    rcases he with ⟨e0, he0, rfl⟩ | ⟨he, hc⟩
    · have hw := List.all_eq_true.1 wh' e0 he0
      simp only [Bool.and_eq_true, decide_eq_true_eq] at hw
      have hb := fc.heap e0 he0
      rw [← hmore] at hb
      refine BlkOk.uninst hw.2.2 hb hθi2 hθl2 hθb2 fun hown => ?_
      have hn := (newPhys e0 he0).2
      rw [inst_b hn] at hown
      rcases hown with hown | hown
      · exact .inl (Nat.le_trans r1.frame.size hown)
      · exact (hownC _ hown).2
    · have hb := f1.heap e he
      cases ho : e.2.owned with
      | false =>
        obtain ⟨n, b⟩ := e
        have hb' := hb.app τ
        cases b <;> simp only [Blk.owned] at ho <;> try (cases ho; done)
        exact hb'
      | true =>
        have hk' := keptPhys e he ho hc
        have hb' := hb.app τ
        have hold := hP.rep.frame.old (ρ1.b e.1).1 hk'.1 hk'.2
        have hphys' : (ρ1.app τ).b e.1 = ρ1.b e.1 := Env.b_app hb.lt
        obtain ⟨n, b⟩ := e
        cases b <;> simp only [BlkOk] at hb' ⊢ <;> try exact hb'
        · rw [hphys'] at hb' ⊢
          rw [hold]; exact hb'
        · rw [hphys'] at hb' ⊢
          rw [hold]; exact hb'
  refine ⟨hlei, hlel, hleb, Facts.of heapAll ?_ ?_ ?_ ?_, frameC⟩
  · show (ownPhys (ρ1.app τ) (s.after θ θ' h1).hp).Nodup
    unfold ownPhys FSpec.after
    rw [List.filter_append, List.map_append, List.nodup_append]
    refine ⟨?_, ?_, ?_⟩
    · have e1 : ((s.hp'.map fun e => (θ'.bs.getD e.1 0, e.2.inst θ')).filter (·.2.owned)).map (fun e => ((ρ1.app τ).b e.1).1) = (s.hp'.filter (·.2.owned)).map fun e => (((θ.env ρ1).app τ).b e.1).1 := by
        rw [List.filter_map, List.map_map]
        have e2 : (fun x : Nat × Blk => x.2.owned) ∘ (fun e : Nat × Blk => (θ'.bs.getD e.1 0, e.2.inst θ')) = fun e => e.2.owned := by
          funext e; exact (show ∀ b : Blk, (b.inst θ').owned = b.owned from fun b => by cases b <;> rfl) e.2
        rw [e2]
        refine List.map_congr_left fun e he => ?_
        simp only [Function.comp]
        rw [← hmore, inst_b (newPhys e (List.mem_filter.1 he).1).2]
      rw [e1]; exact fc.nodup
    · have hsub : List.Sublist ((h1.hp.filter fun e => !((s.hp.filter (·.2.owned)).map fun e => θ.bs.getD e.1 0).contains e.1).filter (·.2.owned)) (h1.hp.filter (·.2.owned)) :=
        (List.filter_sublist (l := h1.hp)).filter _
      have : ((h1.hp.filter fun e => !((s.hp.filter (·.2.owned)).map fun e => θ.bs.getD e.1 0).contains e.1).filter (·.2.owned)).map (fun e => ((ρ1.app τ).b e.1).1) =
          ((h1.hp.filter fun e => !((s.hp.filter (·.2.owned)).map fun e => θ.bs.getD e.1 0).contains e.1).filter (·.2.owned)).map (fun e => (ρ1.b e.1).1) := by
        refine List.map_congr_left fun e he => ?_
        have hm := (List.mem_filter.1 (List.mem_filter.1 he).1).1
        rw [Env.b_app (f1.heap e hm).lt]
      rw [this]
      exact (hsub.map _).nodup f1.nodup
    · intro a ha b hb hab
      subst hab
      obtain ⟨e, he, rfl⟩ := List.mem_map.1 ha
      obtain ⟨e', he', heq⟩ := List.mem_map.1 hb
      obtain ⟨hea, heo⟩ := List.mem_filter.1 he
      obtain ⟨e0, he0, rfl⟩ := List.mem_map.1 hea
      obtain ⟨hk1, hko⟩ := List.mem_filter.1 he'
      obtain ⟨hk2, hk3⟩ := List.mem_filter.1 hk1
      simp only [Bool.not_eq_true'] at hk3
      have kp := keptPhys e' hk2 hko hk3
      have np := newPhys e0 he0
      rw [inst_b np.2] at np
      have hphys' : (ρ1.app τ).b e'.1 = ρ1.b e'.1 := Env.b_app (f1.heap e' hk2).lt
      rw [hphys'] at heq
      simp only at heq
      rcases np.1 with hh | hh
      · omega
      · rw [← heq] at hh; exact kp.2 hh
  · intro q hq σ
    simp only [FSpec.after, List.mem_append, List.mem_map, List.mem_filter, decide_eq_true_eq] at hq
    rcases hq with ⟨q0, ⟨hq0, hge⟩, rfl⟩ | hq
    · have hw := of_decide_eq_true (List.all_eq_true.1 wor q0 hq0)
      have := fc.rng q0 hq0
      have e1 : ((θ.env ρ1).app τ).is.getD q0.1 0 = (ρ1.app τ).is.getD (h1.ni + (q0.1 - s.ni)) 0 := by
        simp only [Env.app, List.getD]
        rw [List.getElem?_append_right (by rw [L1]; exact hge), List.getElem?_append_right (by rw [r1.ni]; omega), L1, r1.ni]
        congr 2; omega
      simp only
      rw [show ((ρ1.app τ).app σ).is.getD (h1.ni + (q0.1 - s.ni)) 0 = (ρ1.app τ).is.getD (h1.ni + (q0.1 - s.ni)) 0 from getD_app (by rw [hlei]; omega), ← e1]
      exact this
    · have := (r1.facts (τ.app σ)).rng q hq
      rw [← Env.app_assoc] at this
      exact this
  · intro d hd σ
    have := (r1.facts (τ.app σ)).defs d hd
    rw [← Env.app_assoc] at this
    exact this
  · intro q hq σ
    simp only [FSpec.after, List.mem_append, List.mem_map, List.mem_filter, decide_eq_true_eq] at hq
    rcases hq with ⟨q0, ⟨hq0, hge⟩, rfl⟩ | hq
    · have hw := of_decide_eq_true (List.all_eq_true.1 wol q0 hq0)
      have := fc.lrng q0 hq0
      have e1 : ((θ.env ρ1).app τ).ls.getD q0.1 [] = (ρ1.app τ).ls.getD (h1.nl + (q0.1 - s.nl)) [] := by
        simp only [Env.app, List.getD]
        rw [List.getElem?_append_right (by rw [L2]; exact hge), List.getElem?_append_right (by rw [r1.nl]; omega), L2, r1.nl]
        congr 2; omega
      simp only
      rw [show ((ρ1.app τ).app σ).ls.getD (h1.nl + (q0.1 - s.nl)) [] = (ρ1.app τ).ls.getD (h1.nl + (q0.1 - s.nl)) [] from getD_app (by rw [hlel]; omega), ← e1]
      exact this
    · have := (r1.facts (τ.app σ)).lrng q hq
      rw [← Env.app_assoc] at this
      exact this
end Go.Sx
