/- A contract out of a run of the executor. -/
import Derived.Test.YthjfkblnbecjgaaGreatDoorSxT
set_option linter.unusedVariables false
namespace Go.Sx

def idGs (s : FSpec) : Gs := ⟨(List.range s.ni).map fun i => (i, .v i), (List.range s.nl).map fun i => (i, i), (List.range s.nb).map fun i => (i, i)⟩
def FSpec.outSub (s : FSpec) (x : SV) (h : H) : Sub := (((idGs s).sv s.res x).hp h s.hp').sub (s.ni + s.ri) (s.nl + s.rl) (s.nb + s.rb)
def FSpec.outFits (s : FSpec) (x : SV) (h : H) (θ : Sub) : Bool :=
  svEq (s.res.inst θ) x && (s.hp'.all (fun e => match h.blk (θ.bs.getD e.1 0) with | some b => blkEq (e.2.inst θ) b | none => false) &&
    (nodupB ((s.hp'.filter (·.2.owned)).map fun e => θ.bs.getD e.1 0) && (θ.is.all (At.lt h.ni) && (θ.ls.all (fun l => decide (l < h.nl)) && (θ.bs.all (fun l => decide (l < h.nb)) &&
    (decide (θ.is.length = s.ni + s.ri) && (decide (θ.ls.length = s.nl + s.rl) && (decide (θ.bs.length = s.nb + s.rb) &&
    (decide (θ.is.take s.ni = (List.range s.ni).map .v) && (decide (θ.ls.take s.nl = List.range s.nl) && (decide (θ.bs.take s.nb = List.range s.nb) &&
    s.olrng.all (fun r => inside (h.lrange (θ.ls.getD r.1 0)) (some r.2)))))))))))))
def FSpec.finish (s : FSpec) (x : SV) (h : H) : Tree :=
  let θ := s.outSub x h
  if s.outFits x h θ then rangeNeeds θ s.orng h fun _ _ => .done (θ.is.drop s.ni) (θ.ls.drop s.nl) else .fail 180
/-- A truth value that ought to be 'true' is asked to be so. -/
def wantTrue (r x : SV) : M SV :=
  match r, x with
  | .b (.c 1), .b (.v i) => do
    need .neq (.v i) (.c 0)
    pure (.b (.c 1))
  | _, x => pure x
theorem wantTrue_spec {Φ : Phi} {C : Ctx} {ρ : Env} {h : H} {w : World} {r x : SV} {v : Value} (hx : SvIs ρ x v) : MSpec Φ C (wantTrue r x) ρ h w fun y ρ' h' w' => w' = w ∧ SvIs ρ' y v := by
  unfold wantTrue
  split
  · rename_i i
    obtain ⟨ha, rfl⟩ := hx.bool
    refine (need_spec ha (AtIs.c ρ 0)).bind ?_
    rintro _ ρ1 h1 w1 l1 ⟨rfl, _, c⟩
    refine MSpec.ret ⟨rfl, ⟨rfl, ?_⟩⟩
    have c' : (At.v i).den ρ.is ≠ 0 := by simpa [cmpB] using c
    have c2 : ((At.v i).den ρ.is != 0) = true := by simpa using c'
    rw [c2]; rfl
  · exact MSpec.ret ⟨rfl, hx⟩
def FSpec.tree (P : Program) (cfg : Cfg) (more : More P cfg) (rounds fuel : Nat) (s : FSpec) : Tree :=
  match P.funcs[s.f]? with
  | some fn => (match fn.body with
    | some c => if plainName fn && s.wf then
        exec P cfg more rounds fuel s.f c (s.args.map some ++ List.replicate (fn.ntmps - s.args.length) none) s.H0 fun e sl h =>
          match e with
          | .exit _ => .fail 181
          | _ => resultsM P cfg.ro sl fn.results.toList h fun xs h => wantTrue s.res (packS xs) h s.finish
      else .fail 183
    | none => .fail 184)
  | none => .fail 185

theorem map_v_den (n : Nat) (is js : List Int) (h : is.length = n) : ((List.range n).map At.v).map (·.den (is ++ js)) = is := by
  subst h
  apply List.ext_getElem?
  intro i
  by_cases hi : i < is.length
  · simp [hi, List.getElem?_append_left hi]
  · rw [List.getElem?_eq_none (by simpa using hi), List.getElem?_eq_none (by simpa using hi)]
theorem map_getD_range {α : Type} (l m : List α) (d : α) : (List.range l.length).map (fun j => (l ++ m).getD j d) = l := by
  apply List.ext_getElem?
  intro i
  by_cases hi : i < l.length
  · simp [hi, List.getD, List.getElem?_append_left hi]
  · rw [List.getElem?_eq_none (by simpa using hi), List.getElem?_eq_none (by simpa using hi)]

theorem FSpec.finish_sound {s : FSpec} (hwf : s.wf = true) {C : Ctx} {ρ ρ' : Env} {h : H} {w' : World} {x : SV} {v : Value} {ag : List (List Int → List (List Int) → Prop)}
    (l1 : ρ.is.length = s.ni) (l2 : ρ.ls.length = s.nl) (l3 : ρ.bs.length = s.nb) (l : ρ.le ρ') (r : RepH C ρ' h w') (hx : SvIs ρ' x v)
    (hd : (s.finish x h).den ⟨s.rel.post ρ.is ρ.ls, ag⟩ ρ'.is ρ'.ls) : ∃ τ, s.Post C ρ v w' τ := by
  unfold FSpec.finish at hd
  simp only at hd
  split at hd
  case isFalse => exact hd.elim
  rename_i hfit
  generalize hθ : s.outSub x h = θ at hd hfit
  simp only [FSpec.outFits, Bool.and_eq_true, decide_eq_true_eq] at hfit
  obtain ⟨hres, hblks, hnod, hθi, hθl, hθb, hli, hll, hlb, hti, htl, htb, hlr⟩ := hfit
  simp only [FSpec.wf, Bool.and_eq_true] at hwf
  obtain ⟨wa, wh, wh', wr, wir, wil, wor, wol⟩ := hwf
  have hθi' : θ.is.all (At.lt ρ'.is.length) = true := by rw [r.ni]; exact hθi
  obtain ⟨_, ρ1, h1, w1, l1', r1, d1, e1, hp1, hlr1, _, hrg⟩ := rangeNeeds_spec (Φ := ⟨s.rel.post ρ.is ρ.ls, ag⟩) (C := C) (w := w') s.orng hθi' r _ hd
  subst e1
  simp only [Tree.den] at d1
  have hθi1 : θ.is.all (At.lt ρ1.is.length) = true := List.all_eq_true.2 fun x hx => At.lt_mono (List.all_eq_true.1 hθi' x hx) (Env.le_len l1').1
  have hx1 := hx.mono l1'
  have ll : ρ.le ρ1 := Env.le_trans l l1'
  have f1 := r1.fact
  -- the environment of the template is the one at the start, and what came
  have henv : θ.env ρ1 = ρ.app ⟨(θ.is.drop s.ni).map (·.den ρ1.is), (θ.ls.drop s.nl).map (fun l => ρ1.ls.getD l []), (θ.bs.drop s.nb).map ρ1.b⟩ := by
    obtain ⟨τ, rfl⟩ := ll
    unfold Sub.env Env.app
    simp only [Env.mk.injEq]
    refine ⟨?_, ?_, ?_⟩
    · conv => lhs; rw [← List.take_append_drop s.ni θ.is, List.map_append, hti]
      rw [map_v_den s.ni ρ.is τ.is l1]
    · conv => lhs; rw [← List.take_append_drop s.nl θ.ls, List.map_append, htl]
      rw [← l2]
      congr 1
      exact map_getD_range ρ.ls τ.ls []
    · conv => lhs; rw [← List.take_append_drop s.nb θ.bs, List.map_append, htb]
      rw [← l3]
      congr 1
      exact map_getD_range ρ.bs τ.bs (0, 0)
  have L1 : (θ.env ρ1).is.length = s.ni + s.ri := by simp [Sub.env, hli]
  have L2 : (θ.env ρ1).ls.length = s.nl + s.rl := by simp [Sub.env, hll]
  have L3 : (θ.env ρ1).bs.length = s.nb + s.rb := by simp [Sub.env, hlb]
  have hblk : ∀ e ∈ s.hp', h1.blk (θ.bs.getD e.1 0) = some (e.2.inst θ) := fun e he => by
    have := List.all_eq_true.1 hblks e he
    have hh : h1.blk (θ.bs.getD e.1 0) = h.blk (θ.bs.getD e.1 0) := by unfold H.blk; rw [hp1]
    rw [hh]
    cases eb : h.blk (θ.bs.getD e.1 0) with
    | none => rw [eb] at this; cases this
    | some b => rw [eb] at this; rw [blkEq_eq this]
  have hwh : ∀ e ∈ s.hp', (e.1 < θ.bs.length ∧ e.2.inB θ.is.length θ.ls.length θ.bs.length = true) ∧ e.2.owned = true := fun e he => by
    have := List.all_eq_true.1 wh' e he
    simp only [Bool.and_eq_true, decide_eq_true_eq] at this
    rw [hli, hll, hlb]; exact ⟨⟨this.1, this.2.1⟩, this.2.2⟩
  refine ⟨⟨(θ.is.drop s.ni).map (·.den ρ1.is), (θ.ls.drop s.nl).map (fun l => ρ1.ls.getD l []), (θ.bs.drop s.nb).map ρ1.b⟩, by simp [hli], by simp [hll], by simp [hlb], d1, ?_, ?_⟩
  · rw [← henv]
    refine ⟨by rw [L1, L3]; exact wr, ?_⟩
    rw [inst_den s.res (by rw [hli, hlb]; exact wr), svEq_eq hres]
    exact hx1.2
  · rw [← henv]
    refine ⟨L1, L2, L3, Facts.of (fun e he => ?_) ?_ (fun q hq σ => ?_) (fun d hd => by cases hd) (fun q hq σ x hx => ?_), r1.frame⟩
    · have hb := f1.heap _ (blk_mem (hblk e he))
      exact BlkOk.inst (C := C) (hwh e he).1.1 (hwh e he).1.2 hb hb.mine (fun ho => by rw [(hwh e he).2] at ho; cases ho)
    · show (ownPhys (θ.env ρ1) s.hp').Nodup
      rw [← ownPhys_inst fun e he => (hwh e he).1]
      refine phys_sub f1.nodup (fun e he => ?_) ?_
      · obtain ⟨e0, he0, rfl⟩ := List.mem_map.1 he
        exact blk_mem (hblk e0 he0)
      · have := nodupB_ok hnod
        rw [List.filter_map, List.map_map]
        have e2 : (fun x : Nat × Blk => x.2.owned) ∘ (fun e : Nat × Blk => (θ.bs.getD e.1 0, e.2.inst θ)) = fun e => e.2.owned := by
          funext e; exact owned_inst θ e.2
        rw [e2]
        exact this
    · have hw := of_decide_eq_true (List.all_eq_true.1 wor q hq)
      rw [show ((θ.env ρ1).app σ).is.getD q.1 0 = (θ.env ρ1).is.getD q.1 0 from getD_app (by rw [L1]; exact hw)]
      have := hrg q hq
      have e2 : (θ.env ρ1).is.getD q.1 0 = ((At.v q.1).inst θ).den ρ1.is := inst_at (a := .v q.1) (by simp [At.lt, hli, hw])
      have e3 : ((At.v q.1).inst θ).den ρ1.is = ((At.v q.1).inst θ).den ρ'.is := by
        obtain ⟨τ, rfl⟩ := l1'
        refine At.den_app ?_
        have hi : q.1 < θ.is.length := by rw [hli]; exact hw
        simp only [At.inst, List.getD, List.getElem?_eq_getElem hi, Option.getD_some]
        exact List.all_eq_true.1 hθi' _ (List.getElem_mem hi)
      rw [e2, e3]; exact this
    · have hw := of_decide_eq_true (List.all_eq_true.1 wol q hq)
      rw [show ((θ.env ρ1).app σ).ls.getD q.1 [] = (θ.env ρ1).ls.getD q.1 [] from getD_app (by rw [L2]; exact hw)] at hx
      rw [inst_l (by rw [hll]; exact hw)] at hx
      have hin := List.all_eq_true.1 hlr q hq
      have hl1' : h1.lrange (θ.ls.getD q.1 0) = h.lrange (θ.ls.getD q.1 0) := by unfold H.lrange; rw [hlr1]
      rw [← hl1'] at hin
      exact inside_ok hin (lrange_ok f1 _ x hx)

/-- **A contract, out of the executor's tree.** -/
theorem FSpec.holds_of {P : Program} {cfg : Cfg} {more : More P cfg} {rounds fuel : Nat} {s : FSpec} (hcfg : cfg.Ok P) (hm : ∀ C, RoOk C cfg.ro → more.Ok P cfg C)
    (hT : ∀ (is : List Int) (ls : List (List Int)), is.length = s.ni → ls.length = s.nl → s.rel.pre is ls → (∀ r ∈ s.irng, r.2.1 ≤ is.getD r.1 0 ∧ is.getD r.1 0 ≤ r.2.2) → (∀ r ∈ s.ilrng, ∀ x ∈ ls.getD r.1 [], r.2.1 ≤ x ∧ x ≤ r.2.2) →
      (s.tree P cfg more rounds fuel).den ⟨s.rel.post is ls, []⟩ is ls) : s.Holds P cfg.ro := by
  intro w ρ hro rep hok hpre
  have hd := hT ρ.is ρ.ls rep.ni rep.nl hpre rep.fact.rng rep.fact.lrng
  unfold FSpec.tree at hd
  split at hd
  · rename_i fn ef
    split at hd
    · rename_i c ec
      split at hd
      · rename_i hn
        simp only [Bool.and_eq_true] at hn
        unfold Invokes
        rw [callFunc_enter ef ec hn.1]
        simp only
        refine calls_of_wp ef ec ?_
        refine exec_sound hcfg hro (hm _ hro) fuel _ s.f c _ s.H0 _ _ ρ _ w (enter_rep hok fn.ntmps) rep hd ?_
        intro e sl' h' ρ' a' w' l rs rh hd'
        have fin : (resultsM P cfg.ro sl' fn.results.toList h' fun xs h => wantTrue s.res (packS xs) h s.finish).den ⟨s.rel.post ρ.is ρ.ls, []⟩ ρ'.is ρ'.ls →
            a'.defers = [] ∧ ∃ v, (results fn a'.tmps).run P w' = .ok v w' ∧ (∃ v', Ending.returned v = .returned v' ∧ ∃ τ, s.Post (s.ctx ρ w cfg.ro) ρ v' w' τ) := by
          intro hd'
          refine ⟨rs.defers, ?_⟩
          obtain ⟨xs, ρ3, h3, w3, l3, r3, d3, e3, _, hok3, hrun3⟩ := resultsM_spec (P := P) hro fn.results.toList rs rh _ hd'
          subst e3
          obtain ⟨v, hv, hs⟩ := results_run hok3 hrun3
          obtain ⟨y, ρ2, h2, w2, l2, r2, d2, rfl, hy⟩ := wantTrue_spec (Φ := ⟨s.rel.post ρ.is ρ.ls, []⟩) (C := s.ctx ρ w cfg.ro) (w := w3) (r := s.res) hs r3 _ d3
          exact ⟨v, hv, v, rfl, FSpec.finish_sound hn.2 rep.ni rep.nl rep.nb (Env.le_trans l (Env.le_trans l3 l2)) r2 hy d2⟩
        cases e with
        | norm => exact fin hd'
        | ret => exact fin hd'
        | exit id => exact hd'.elim
      · exact hd.elim
    · exact hd.elim
  · exact hd.elim
end Go.Sx
