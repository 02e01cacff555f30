/- The use of a contract at a call is sound. -/
import Derived.Test.YthjfkblnbecjgaaGreatDoorSxS
set_option linter.unusedVariables false
namespace Go.Sx

def nodupB : List Nat → Bool
  | [] => true
  | x :: l => !l.contains x && nodupB l
theorem nodupB_ok : ∀ {l : List Nat}, nodupB l = true → l.Nodup
  | [], _ => List.nodup_nil
  | x :: l, h => by
    simp only [nodupB, Bool.and_eq_true, Bool.not_eq_true', List.contains_eq_mem, decide_eq_false_iff_not] at h
    exact List.nodup_cons.2 ⟨h.1, nodupB_ok h.2⟩
/-- The template's numbers are in order. -/
def FSpec.wf (s : FSpec) : Bool :=
  SV.oks s.ni s.nb s.args && (s.hp.all (fun e => decide (e.1 < s.nb) && e.2.inB s.ni s.nl s.nb) && (s.hp'.all (fun e => decide (e.1 < s.nb + s.rb) && (e.2.inB (s.ni + s.ri) (s.nl + s.rl) (s.nb + s.rb) && e.2.owned)) &&
  (SV.ok (s.ni + s.ri) (s.nb + s.rb) s.res && (s.irng.all (fun r => decide (r.1 < s.ni)) && (s.ilrng.all (fun r => decide (r.1 < s.nl)) && (s.orng.all (fun r => decide (r.1 < s.ni + s.ri)) && s.olrng.all (fun r => decide (r.1 < s.nl + s.rl))))))))

def rangeNeeds (θ : Sub) : List (Nat × Int × Int) → M Unit
  | [] => pure ()
  | r :: rest => do
    need .geq ((At.v r.1).inst θ) (.c r.2.1)
    need .leq ((At.v r.1).inst θ) (.c r.2.2)
    rangeNeeds θ rest
def Sub.more (θ : Sub) (h : H) (ri rl rb : Nat) : Sub := ⟨θ.is ++ (List.range ri).map fun j => .v (h.ni + j), θ.ls ++ (List.range rl).map (h.nl + ·), θ.bs ++ (List.range rb).map (h.nb + ·)⟩
def newName (b : Nat) (n j : Nat) : Nat := n + (j - b)
def FSpec.after (s : FSpec) (θ θ' : Sub) (h : H) : H :=
  { h.swap ((s.hp.filter (·.2.owned)).map fun e => θ.bs.getD e.1 0) (s.hp'.map fun e => (θ'.bs.getD e.1 0, e.2.inst θ')) with
    ni := h.ni + s.ri, nl := h.nl + s.rl, nb := h.nb + s.rb,
    rng := ((s.orng.filter fun r => decide (s.ni ≤ r.1)).map fun r => (h.ni + (r.1 - s.ni), r.2)) ++ h.rng,
    defs := h.defs,
    lrng := ((s.olrng.filter fun r => decide (s.nl ≤ r.1)).map fun r => (h.nl + (r.1 - s.nl), r.2)) ++ h.lrng }
def FSpec.guess (s : FSpec) (args : List SV) (h : H) : Sub := ((Gs.svs ⟨[], [], []⟩ s.args args).hp h s.hp).sub s.ni s.nl s.nb
def FSpec.fits (s : FSpec) (args : List SV) (h : H) (θ : Sub) : Bool :=
  s.wf && (svsEq (SV.insts θ s.args) args && (s.hp.all (fun e => match h.blk (θ.bs.getD e.1 0) with | some b => blkEq (e.2.inst θ) b | none => false) &&
    (nodupB ((s.hp.filter (·.2.owned)).map fun e => θ.bs.getD e.1 0) && (θ.is.all (At.lt h.ni) && (θ.ls.all (fun l => decide (l < h.nl)) && (θ.bs.all (fun l => decide (l < h.nb)) &&
    (decide (θ.is.length = s.ni) && (decide (θ.ls.length = s.nl) && (decide (θ.bs.length = s.nb) && s.ilrng.all (fun r => inside (h.lrange (θ.ls.getD r.1 0)) (some r.2)))))))))))
def FSpec.run (s : FSpec) (args : List SV) : M SV := fun h k =>
  let θ := s.guess args h
  if s.fits args h θ then
    rangeNeeds θ s.irng h fun _ h1 =>
      let θ' := θ.more h1 s.ri s.rl s.rb
      .call s.f s.rel θ.is θ.ls s.ri s.rl (k (s.res.inst θ') (s.after θ θ' h1))
  else .fail 170
def FSpec.spec (s : FSpec) : Spec := ⟨s.f, s.run⟩

theorem rangeNeeds_spec {Φ : Phi} {C : Ctx} {w : World} {θ : Sub} : ∀ (l : List (Nat × Int × Int)) {ρ : Env} {h : H}, θ.is.all (At.lt ρ.is.length) = true →
    MSpec Φ C (rangeNeeds θ l) ρ h w fun _ ρ' h' w' => w' = w ∧ h'.hp = h.hp ∧ h'.lrng = h.lrng ∧ ρ' = ρ ∧ ∀ r ∈ l, r.2.1 ≤ ((At.v r.1).inst θ).den ρ.is ∧ ((At.v r.1).inst θ).den ρ.is ≤ r.2.2
  | [], ρ, h, hθ => MSpec.ret ⟨rfl, rfl, rfl, rfl, fun r hr => by cases hr⟩
  | q :: rest, ρ, h, hθ => by
    have hat : AtIs ρ ((At.v q.1).inst θ) (((At.v q.1).inst θ).den ρ.is) := by
      refine ⟨?_, rfl⟩
      simp only [At.inst]
      by_cases hi : q.1 < θ.is.length
      · simp only [List.getD, List.getElem?_eq_getElem hi, Option.getD_some]
        exact List.all_eq_true.1 hθ _ (List.getElem_mem hi)
      · simp [List.getD, List.getElem?_eq_none (Nat.ge_of_not_lt hi), At.lt]
    unfold rangeNeeds
    refine (need_spec' hat (AtIs.c ρ q.2.1)).bind ?_
    rintro _ ρ1 h1 w1 l1 ⟨rfl, hp1, hl1, er1, c1⟩
    refine (need_spec' (hat.mono l1) (AtIs.c ρ1 q.2.2)).bind ?_
    rintro _ ρ2 h2 w2 l2 ⟨rfl, hp2, hl2, er2, c2⟩
    have l12 := Env.le_trans l1 l2
    have hθ2 : θ.is.all (At.lt ρ2.is.length) = true := List.all_eq_true.2 fun x hx => At.lt_mono (List.all_eq_true.1 hθ x hx) (Env.le_len l12).1
    refine (rangeNeeds_spec rest hθ2).mono ?_
    rintro _ ρ3 h3 w3 l3 ⟨rfl, hp3, hl3, er3, hr⟩
    simp only [cmpB, decide_eq_true_eq] at c1 c2
    refine ⟨rfl, by rw [hp3, hp2, hp1], by rw [hl3, hl2, hl1], by rw [er3, er2, er1], fun r hr' => ?_⟩
    rcases List.mem_cons.1 hr' with rfl | hr'
    · exact ⟨c1, c2⟩
    · have := hr r hr'
      have e : ((At.v r.1).inst θ).den ρ2.is = ((At.v r.1).inst θ).den ρ.is := by
        obtain ⟨τ, rfl⟩ := l12
        refine At.den_app ?_
        simp only [At.inst]
        by_cases hi : r.1 < θ.is.length
        · simp only [List.getD, List.getElem?_eq_getElem hi, Option.getD_some]
          exact List.all_eq_true.1 hθ _ (List.getElem_mem hi)
        · simp [List.getD, List.getElem?_eq_none (Nat.ge_of_not_lt hi), At.lt]
      rw [e] at this; exact this

theorem map_range_getD {α : Type} (l m : List α) (d : α) : (List.range m.length).map (fun j => (l ++ m).getD (l.length + j) d) = m := by
  apply List.ext_getElem?
  intro i
  by_cases hi : i < m.length
  · simp [hi, List.getD]
  · rw [List.getElem?_eq_none (by simpa using hi), List.getElem?_eq_none (by simpa using hi)]

theorem more_env {θ : Sub} {ρ : Env} {h : H} {τ : Env} (h1 : ρ.is.length = h.ni) (h2 : ρ.ls.length = h.nl) (h3 : ρ.bs.length = h.nb)
    (hθ : θ.is.all (At.lt ρ.is.length) = true) (hθl : ∀ l ∈ θ.ls, l < ρ.ls.length) (hθb : ∀ l ∈ θ.bs, l < ρ.bs.length) :
    (θ.more h τ.is.length τ.ls.length τ.bs.length).env (ρ.app τ) = (θ.env ρ).app τ := by
  unfold Sub.env Sub.more Env.app
  simp only [List.map_append, List.map_map, Env.mk.injEq]
  refine ⟨?_, ?_, ?_⟩
  · congr 1
    · exact List.map_congr_left fun a ha => At.den_app (List.all_eq_true.1 hθ a ha)
    · rw [← h1]; exact map_range_getD ρ.is τ.is 0
  · congr 1
    · exact List.map_congr_left fun a ha => getD_app (hθl a ha)
    · rw [← h2]; exact map_range_getD ρ.ls τ.ls []
  · congr 1
    · exact List.map_congr_left fun a ha => getD_app (hθb a ha)
    · rw [← h3]; exact map_range_getD ρ.bs τ.bs (0, 0)

theorem Invokes.mono {P : Program} {f : FuncId} {vs : Array Value} {w : World} {K K' : Value → World → Prop} (h : Invokes P f vs w K) (hk : ∀ v w', K v w' → K' v w') : Invokes P f vs w K' := by
  unfold Invokes at *
  split
  · rename_i e; rw [e] at h; exact hk _ _ h
  · rename_i e; rw [e] at h; exact h.mono fun e w'' ⟨v, hv, hK⟩ => ⟨v, hv, hk _ _ hK⟩
  · rename_i e; rw [e] at h; exact Rows.mono h hk
  · rename_i h1 h2 h3
    split at h
    · rename_i e; exact h1 _ _ e
    · rename_i e; exact h2 _ _ _ e
    · rename_i e; exact h3 _ _ _ e
    · exact h
theorem FSpec.spec_ok {P : Program} {ro : List (Addr × Value)} {s : FSpec} (hs : s.Holds P ro) : s.spec.Ok P ro := by
  intro Φ C ρ h w args k K hro hok r hd hk
  unfold FSpec.spec FSpec.run at hd
  simp only at hd
  split at hd
  case isFalse => exact hd.elim
  rename_i hfit
  generalize hθ : s.guess args h = θ at hd hfit
  simp only [FSpec.fits, Bool.and_eq_true, decide_eq_true_eq] at hfit
  obtain ⟨hwf, hargs, hblks, hnod, hθi, hθl, hθb, hli, hll, hlb, hlr⟩ := hfit
  simp only [FSpec.wf, Bool.and_eq_true] at hwf
  obtain ⟨wa, wh, wh', wr, wir, wil, wor, wol⟩ := hwf
  have hargs' := svsEq_eq hargs
  have hθi' : θ.is.all (At.lt ρ.is.length) = true := by rw [r.ni]; exact hθi
  have hθl' : ∀ l ∈ θ.ls, l < ρ.ls.length := fun l hl => by rw [r.nl]; exact of_decide_eq_true (List.all_eq_true.1 hθl l hl)
  have hθb' : ∀ l ∈ θ.bs, l < ρ.bs.length := fun l hl => by rw [r.nb]; exact of_decide_eq_true (List.all_eq_true.1 hθb l hl)
  obtain ⟨_, ρ1, h1, w1, l1, r1, d1, e1, hp1, hlr1, _, hrg⟩ := rangeNeeds_spec (Φ := Φ) (C := C) (w := w) s.irng hθi' r _ hd
  subst e1
  simp only [Tree.den] at d1
  obtain ⟨dpre, dpost⟩ := d1
  -- the callee's environment
  have hθi1 : θ.is.all (At.lt ρ1.is.length) = true := List.all_eq_true.2 fun x hx => At.lt_mono (List.all_eq_true.1 hθi' x hx) (Env.le_len l1).1
  have hθl1 : ∀ l ∈ θ.ls, l < ρ1.ls.length := fun l hl => by have := hθl' l hl; have := (Env.le_len l1).2.1; omega
  have hθb1 : ∀ l ∈ θ.bs, l < ρ1.bs.length := fun l hl => by have := hθb' l hl; have := (Env.le_len l1).2.2; omega
  have f1 := r1.fact
  have L1 : (θ.env ρ1).is.length = s.ni := by simp [Sub.env, hli]
  have L2 : (θ.env ρ1).ls.length = s.nl := by simp [Sub.env, hll]
  have L3 : (θ.env ρ1).bs.length = s.nb := by simp [Sub.env, hlb]
  have hwh : ∀ e ∈ s.hp, e.1 < θ.bs.length ∧ e.2.inB θ.is.length θ.ls.length θ.bs.length = true := fun e he => by
    have := List.all_eq_true.1 wh e he
    simp only [Bool.and_eq_true, decide_eq_true_eq] at this
    rw [hli, hll, hlb]; exact this
  have hblk : ∀ e ∈ s.hp, h1.blk (θ.bs.getD e.1 0) = some (e.2.inst θ) := fun e he => by
    have := List.all_eq_true.1 hblks e he
    have hh : h1.blk (θ.bs.getD e.1 0) = h.blk (θ.bs.getD e.1 0) := by unfold H.blk; rw [hp1]
    rw [hh]
    cases eb : h.blk (θ.bs.getD e.1 0) with
    | none => rw [eb] at this; cases this
    | some b => rw [eb] at this; rw [blkEq_eq this]
  have hmem : ∀ e ∈ s.hp, (θ.bs.getD e.1 0, e.2.inst θ) ∈ h1.hp := fun e he => blk_mem (hblk e he)
  have hBk : ∀ e ∈ s.hp, BlkOk C ρ1 w1 (θ.bs.getD e.1 0) (e.2.inst θ) := fun e he => f1.heap _ (hmem e he)
  have hphys : ownPhys (θ.env ρ1) s.hp = ownPhys ρ1 (s.hp.map fun e => (θ.bs.getD e.1 0, e.2.inst θ)) := (ownPhys_inst hwh).symm
  have hownMem : ∀ p ∈ ownPhys (θ.env ρ1) s.hp, ∃ e ∈ s.hp, p ∈ (e.2.inst θ).phys ρ1 (θ.bs.getD e.1 0) := by
    intro p hp
    rw [hphys] at hp
    obtain ⟨e, he, hpe⟩ := List.mem_flatMap.1 hp
    obtain ⟨e0, he0, rfl⟩ := List.mem_map.1 he
    exact ⟨e0, he0, hpe⟩
  have hownC : ∀ p ∈ ownPhys (θ.env ρ1) s.hp, p < w1.heap.size ∧ C.mine p := by
    intro p hp
    obtain ⟨e, he, hpe⟩ := hownMem p hp
    exact ⟨(hBk e he).physLt p hpe, (hBk e he).mine p hpe⟩
  have hro_c : RoOk (s.ctx (θ.env ρ1) w1 ro) ro := by
    intro p hp
    have := hro p hp
    refine ⟨r1.frame.cell this.2.1 this.2.2 this.1, Nat.lt_of_lt_of_le this.2.1 r1.frame.size, fun hmem => ?_⟩
    rcases (hownC _ hmem).2 with hh | hh
    · have := this.2.1; omega
    · exact this.2.2 hh
  have hrep_c : RepH (s.ctx (θ.env ρ1) w1 ro) (θ.env ρ1) s.H0 w1 := by
    refine ⟨L1, L2, L3, Facts.of (fun e he => ?_) ?_ (fun q hq => ?_) (fun d hd => by cases hd) (fun q hq => ?_), ⟨Nat.le_refl _, fun _ _ _ => rfl, rfl, rfl⟩⟩
    · refine BlkOk.inst (C := C) (hwh e he).1 (hwh e he).2 (hBk e he) (fun p hp => .inr ?_) (fun ho => ?_)
      · show p ∈ ownPhys (θ.env ρ1) s.hp
        rw [hphys]
        exact List.mem_flatMap.2 ⟨_, List.mem_map.2 ⟨e, he, rfl⟩, hp⟩
      · have hb := (hBk e he).holds
        obtain ⟨n, b⟩ := e
        cases b <;> simp only [Blk.owned] at ho <;> try (cases ho; done)
        simp only [Blk.inst, Blk.holds] at hb
        refine ⟨Nat.lt_of_lt_of_le hb.1 r1.frame.size, fun hmem => ?_, fun a ha v hv => r1.frame.cell (by rw [ha]; exact hb.1) (by rw [ha]; exact hb.2.1) hv⟩
        rcases (hownC _ hmem).2 with hh | hh
        · exact absurd hb.1 (Nat.not_lt.2 hh)
        · exact hb.2.1 hh
    · show (ownPhys (θ.env ρ1) s.hp).Nodup
      rw [hphys]
      refine phys_sub f1.nodup (fun e he => ?_) ?_
      · obtain ⟨e0, he0, rfl⟩ := List.mem_map.1 he
        exact hmem e0 he0
      · have := nodupB_ok hnod
        rw [List.filter_map, List.map_map]
        have e2 : (fun x : Nat × Blk => x.2.owned) ∘ (fun e : Nat × Blk => (θ.bs.getD e.1 0, e.2.inst θ)) = fun e => e.2.owned := by
          funext e; exact owned_inst θ e.2
        rw [e2]
        exact this
    · have hw := of_decide_eq_true (List.all_eq_true.1 wir q hq)
      intro σ
      rw [show ((θ.env ρ1).app σ).is.getD q.1 0 = (θ.env ρ1).is.getD q.1 0 from getD_app (by rw [L1]; exact hw)]
      have := hrg q hq
      have e2 : (θ.env ρ1).is.getD q.1 0 = ((At.v q.1).inst θ).den ρ1.is := inst_at (a := .v q.1) (by simp [At.lt, hli, hw])
      have e3 : ((At.v q.1).inst θ).den ρ1.is = ((At.v q.1).inst θ).den ρ.is := by
        obtain ⟨τ, rfl⟩ := l1
        refine At.den_app ?_
        have hi : q.1 < θ.is.length := by rw [hli]; exact hw
        simp only [At.inst, List.getD, List.getElem?_eq_getElem hi, Option.getD_some]
        exact List.all_eq_true.1 hθi' _ (List.getElem_mem hi)
      rw [e2, e3]; exact this
    · have hw := of_decide_eq_true (List.all_eq_true.1 wil q hq)
      intro σ x hx
      rw [show ((θ.env ρ1).app σ).ls.getD q.1 [] = (θ.env ρ1).ls.getD q.1 [] from getD_app (by rw [L2]; exact hw)] at hx
      rw [inst_l (by rw [hll]; exact hw)] at hx
      have hin := List.all_eq_true.1 hlr q hq
      have hl1' : h1.lrange (θ.ls.getD q.1 0) = h.lrange (θ.ls.getD q.1 0) := by unfold H.lrange; rw [hlr1]
      rw [← hl1'] at hin
      exact inside_ok hin (lrange_ok f1 _ x hx)
  have hokc : SV.oks (θ.env ρ1).is.length (θ.env ρ1).bs.length s.args = true := by rw [L1, L3]; exact wa
  have hargsden : SV.dens (θ.env ρ1) s.args = SV.dens ρ args := by
    rw [inst_dens s.args (by rw [hli, hlb]; exact wa), hargs']
    obtain ⟨τ, rfl⟩ := l1
    exact SV.dens_app args hok
  have hcall := hs w1 (θ.env ρ1) hro_c hrep_c hokc (by simpa [Sub.env] using dpre)
  rw [hargsden] at hcall
  refine Invokes.mono hcall ?_
  rintro v w' ⟨τ, hP⟩
  have hmore := more_env (θ := θ) (ρ := ρ1) (h := h1) (τ := τ) r1.ni r1.nl r1.nb hθi1 hθl1 hθb1
  rw [hP.li, hP.ll, hP.lb] at hmore
  have dfin := dpost τ.is τ.ls hP.li hP.ll (by simpa [Sub.env] using hP.rel)
  generalize hθ' : θ.more h1 s.ri s.rl s.rb = θ' at hmore dfin
  have M1 : θ'.is.length = s.ni + s.ri := by rw [← hθ']; simp [Sub.more, hli]
  have M2 : θ'.ls.length = s.nl + s.rl := by rw [← hθ']; simp [Sub.more, hll]
  have M3 : θ'.bs.length = s.nb + s.rb := by rw [← hθ']; simp [Sub.more, hlb]
  have hlei : (ρ1.app τ).is.length = h1.ni + s.ri := by simp [Env.app, r1.ni, hP.li]
  have hlel : (ρ1.app τ).ls.length = h1.nl + s.rl := by simp [Env.app, r1.nl, hP.ll]
  have hleb : (ρ1.app τ).bs.length = h1.nb + s.rb := by simp [Env.app, r1.nb, hP.lb]
  have hIn : θ'.In (ρ1.app τ) := by
    rw [← hθ']
    refine ⟨List.all_eq_true.2 fun x hx => ?_, fun l hl => ?_, fun l hl => ?_⟩
    · simp only [Sub.more, List.mem_append, List.mem_map, List.mem_range] at hx
      rcases hx with hx | ⟨j, hj, rfl⟩
      · exact At.lt_mono (List.all_eq_true.1 hθi1 x hx) (Env.le_len (Env.le_app ρ1 τ)).1
      · simp [At.lt, hlei, hj]
    · simp only [Sub.more, List.mem_append, List.mem_map, List.mem_range] at hl
      rcases hl with hl | ⟨j, hj, rfl⟩
      · have := hθl1 l hl; rw [hlel]; rw [r1.nl] at this; omega
      · rw [hlel]; omega
    · simp only [Sub.more, List.mem_append, List.mem_map, List.mem_range] at hl
      rcases hl with hl | ⟨j, hj, rfl⟩
      · have := hθb1 l hl; rw [hleb]; rw [r1.nb] at this; omega
      · rw [hleb]; omega
  have hres : SvIs (ρ1.app τ) (SV.inst θ' s.res) v := by
    have hv := hP.val
    refine ⟨SV.ok_inst (θ := θ') (ρ := ρ1.app τ) (fun a ha => hIn.at ha) (fun m hm => hIn.b hm) s.res (by rw [M1, M3]; exact wr), ?_⟩
    rw [← inst_den s.res (by rw [M1, M3]; exact wr), hmore]; exact hv.2
  refine hk _ (ρ1.app τ) _ v w' (Env.le_trans l1 (Env.le_app ρ1 τ)) ?_ hres dfin
  -- the caller's memory behind the call
  have fc := hP.rep.fact
  have hwh' : ∀ e ∈ s.hp', (e.1 < θ'.bs.length ∧ e.2.inB θ'.is.length θ'.ls.length θ'.bs.length = true) ∧ e.2.owned = true := fun e he => by
    have := List.all_eq_true.1 wh' e he
    simp only [Bool.and_eq_true, decide_eq_true_eq] at this
    rw [M1, M2, M3]; exact ⟨⟨this.1, this.2.1⟩, this.2.2⟩
  have hnews : ownPhys (ρ1.app τ) (s.hp'.map fun e => (θ'.bs.getD e.1 0, e.2.inst θ')) = ownPhys ((θ.env ρ1).app τ) s.hp' := by
    rw [← hmore]; exact ownPhys_inst fun e he => (hwh' e he).1
  have hgone : ∀ p ∈ ownPhys (θ.env ρ1) s.hp, ∃ e ∈ h1.hp, ((s.hp.filter (·.2.owned)).map fun e => θ.bs.getD e.1 0).contains e.1 = true ∧ p ∈ e.2.phys ρ1 e.1 := by
    intro p hp
    obtain ⟨e, he, hpe⟩ := hownMem p hp
    refine ⟨_, hmem e he, ?_, hpe⟩
    rw [List.contains_eq_mem, decide_eq_true_eq]
    refine List.mem_map.2 ⟨e, List.mem_filter.2 ⟨he, ?_⟩, rfl⟩
    cases ho : e.2.owned with
    | true => rfl
    | false => rw [ro_phys (by rw [owned_inst]; exact ho)] at hpe; cases hpe
  have hch := r1.change (w' := w') τ (drop := (s.hp.filter (·.2.owned)).map fun e => θ.bs.getD e.1 0) (news := s.hp'.map fun e => (θ'.bs.getD e.1 0, e.2.inst θ'))
    (ni := h1.ni + s.ri) (nl := h1.nl + s.rl) (nb := h1.nb + s.rb) (by rw [hP.li]) (by rw [hP.ll]) (by rw [hP.lb]) hP.rep.frame.size
    (fun p hp hno => hP.rep.frame.old p hp fun hmem' => by
      obtain ⟨e, he, hd, hpe⟩ := hgone p hmem'
      exact hno e he hd hpe)
    hP.rep.frame.os hP.rep.frame.output
    (fun e he => by
      obtain ⟨e0, he0, rfl⟩ := List.mem_map.1 he
      have hb := fc.heap e0 he0
      rw [← hmore] at hb
      refine BlkOk.uninst (hwh' e0 he0).2 hb hIn fun p hp hm => ?_
      rcases hm with hm | hm
      · exact .inl (Nat.le_trans r1.frame.size hm)
      · exact (hownC p hm).2)
    (by rw [hnews]; exact fc.nodup)
    (fun p hp => by
      rw [hnews] at hp
      obtain ⟨e, he, hpe⟩ := List.mem_flatMap.1 hp
      rcases (fc.heap e he).mine p hpe with hm | hm
      · exact .inl hm
      · exact .inr (hgone p hm))
  refine hch.ranges (rng := (s.orng.filter fun r => decide (s.ni ≤ r.1)).map fun r => (h1.ni + (r.1 - s.ni), r.2)) (lrng := (s.olrng.filter fun r => decide (s.nl ≤ r.1)).map fun r => (h1.nl + (r.1 - s.nl), r.2)) ?_ ?_
  · intro q hq
    obtain ⟨q0, hq0, rfl⟩ := List.mem_map.1 hq
    obtain ⟨hq0, hge⟩ := List.mem_filter.1 hq0
    have hge := of_decide_eq_true hge
    have hw := of_decide_eq_true (List.all_eq_true.1 wor q0 hq0)
    have := fc.rng q0 hq0
    have e1 : ((θ.env ρ1).app τ).is.getD q0.1 0 = (ρ1.app τ).is.getD (h1.ni + (q0.1 - s.ni)) 0 := by
      simp only [Env.app, List.getD]
      rw [List.getElem?_append_right (by rw [L1]; exact hge), List.getElem?_append_right (by rw [r1.ni]; omega), L1, r1.ni]
      congr 2; omega
    rw [e1] at this
    exact ⟨by rw [hlei]; show h1.ni + (q0.1 - s.ni) < _; omega, this⟩
  · intro q hq
    obtain ⟨q0, hq0, rfl⟩ := List.mem_map.1 hq
    obtain ⟨hq0, hge⟩ := List.mem_filter.1 hq0
    have hge := of_decide_eq_true hge
    have hw := of_decide_eq_true (List.all_eq_true.1 wol q0 hq0)
    have := fc.lrng q0 hq0
    have e1 : ((θ.env ρ1).app τ).ls.getD q0.1 [] = (ρ1.app τ).ls.getD (h1.nl + (q0.1 - s.nl)) [] := by
      simp only [Env.app, List.getD]
      rw [List.getElem?_append_right (by rw [L2]; exact hge), List.getElem?_append_right (by rw [r1.nl]; omega), L2, r1.nl]
      congr 2; omega
    rw [e1] at this
    exact ⟨by rw [hlel]; show h1.nl + (q0.1 - s.nl) < _; omega, this⟩
end Go.Sx
