/- Regions that draw their order. -/
import Derived.Test.YthjfkblnbecjgaaGreatDoorSxU
import Derived.Still
set_option linter.unusedVariables false
namespace Go.Sx

section
variable {P : Program} {ops : Array Oper} {K : Array Bool → World → Prop} {Ki : World → Prop}
abbrev NoQ : Exit → Act → World → Prop := fun _ _ _ => False
def wpAnyK (P : Program) (ops : Array Oper) (K : Array Bool → World → Prop) (Q : Act → World → Prop) : Nat → Array Bool → Act → World → Prop
  | 0, listed, a, w => K listed w ∧ Region.ready .any ops listed = [] ∧ Q a w
  | fuel + 1, listed, a, w => K listed w ∧ (Region.ready .any ops listed = [] → Q a w) ∧
    ∀ i ∈ Region.ready .any ops listed, wpOp P ops NoQ i (wpAnyK P ops K Q fuel (listed.setIfInBounds i true)) a w
/-- All that was listed before is. -/
def Lists (l l' : Array Bool) : Prop := ∀ m, l.getD m false = true → l'.getD m false = true
theorem Lists.refl (l : Array Bool) : Lists l l := fun _ h => h
theorem getD_set_true (l : Array Bool) (i m : Nat) (h : l.getD m false = true) : (l.setIfInBounds i true).getD m false = true := by
  by_cases e : i = m
  · subst e
    rcases Nat.lt_or_ge i l.size with h' | h'
    · simp [h']
    · simp [Array.getElem?_eq_none h'] at h
  · simpa [Array.getElem?_setIfInBounds_ne e] using h
theorem Lists.set {l l' : Array Bool} {i : Nat} (h : Lists (l.setIfInBounds i true) l') : Lists l l' := fun m hm => h m (getD_set_true l i m hm)
theorem Oper.wp_Q {o : Oper} {a : Act} {w : World} {next : Act → World → Prop} {Q : Exit → Act → World → Prop} (h : o.wp P a w next NoQ) : o.wp P a w next Q := by
  unfold Oper.wp at *
  generalize (execOp a.eval o).run P w = r at *
  cases r with
  | ok n w' =>
    cases n <;> simp only [Oper.upon] at h ⊢ <;> try exact h
    refine h.mono fun e w'' he => ?_
    cases e with
    | returned v => exact he
    | panicked c => exact he.elim
    | outgrown => obtain ⟨_, _, hf⟩ := he; exact hf.elim
  | halt x w' => cases x <;> exact False.elim h
theorem wpOp_Q {i : Nat} {a : Act} {w : World} {next : Act → World → Prop} {Q : Exit → Act → World → Prop} (h : wpOp P ops NoQ i next a w) : wpOp P ops Q i next a w := by
  unfold wpOp at *
  split
  · rename_i ho; rw [ho] at h; exact h
  · rename_i o ho
    rw [ho] at h
    simp only at h
    split
    · rename_i hw
      rw [if_pos hw] at h
      rcases h with h | ⟨_, _, _, hf⟩
      · exact .inl (Oper.wp_Q h)
      · exact hf.elim
    · rename_i hw; rw [if_neg hw] at h; exact h
theorem wpAnyK_any {Q : Act → World → Prop} {Q' : Exit → Act → World → Prop} (hQ : ∀ a w, Q a w → Q' .normal a w) : ∀ (fuel : Nat) (listed : Array Bool) (a : Act) (w : World),
    wpAnyK P ops K Q fuel listed a w → wpAny P .any ops Q' fuel listed a w
  | 0, _, _, _, h => ⟨h.2.1, hQ _ _ h.2.2⟩
  | fuel + 1, _, _, _, h => ⟨fun h0 => hQ _ _ (h.2.1 h0), fun i hi => wpOp_Q (wpOp_mono (fun a w hh => wpAnyK_any hQ fuel _ a w hh) (h.2.2 i hi))⟩
theorem wpAnyK_mono {K' : Array Bool → World → Prop} {Q : Act → World → Prop} : ∀ (fuel : Nat) (listed : Array Bool) (a : Act) (w : World), (∀ l w, Lists listed l → K l w → K' l w) → wpAnyK P ops K Q fuel listed a w → wpAnyK P ops K' Q fuel listed a w
  | 0, listed, _, _, hK, h => ⟨hK _ _ (Lists.refl _) h.1, h.2⟩
  | fuel + 1, listed, _, _, hK, h => ⟨hK _ _ (Lists.refl _) h.1, h.2.1, fun i hi => wpOp_mono (fun a w hh => wpAnyK_mono fuel _ a w (fun l w hl => hK l w hl.set) hh) (h.2.2 i hi)⟩

/-- In every world of the class the operation gives v and leaves the world. -/
def YieldsK (P : Program) (ops : Array Oper) (K : World → Prop) (o : Oper) (v : Value) (a : Act) : Prop :=
  (Region.wanted o (yielded ops a.tmps) = true ∧ ∀ w, K w → (execOp a.eval o).run P w = .ok (.value v) w) ∨ (Region.wanted o (yielded ops a.tmps) = false ∧ v = undef)
theorem YieldsK.of_same {K : World → Prop} {o : Oper} {v : Value} {a a' : Act} (hy : YieldsK P ops K o v a) (he : execOp a'.eval o = execOp a.eval o)
    (hw : Region.wanted o (yielded ops a'.tmps) = Region.wanted o (yielded ops a.tmps)) : YieldsK P ops K o v a' := by
  unfold YieldsK at *; rw [he, hw]; exact hy
theorem YieldsK.wpOp {K : World → Prop} {i : Nat} {o : Oper} {v : Value} {a : Act} {w : World} (hi : ops[i]? = some o) (hy : YieldsK P ops K o v a) (hK : K w) {next : Act → World → Prop} (h : next (a.put o.dst v) w) :
    wpOp P ops NoQ i next a w := by
  unfold Go.wpOp
  rw [hi]
  simp only
  rcases hy with ⟨hw, hv⟩ | ⟨hw, rfl⟩
  · rw [if_pos hw]
    left
    unfold Oper.wp
    rw [hv w hK]
    exact h
  · rw [if_neg (by simp [hw])]
    exact h

theorem eval_defers (a : Act) (ds : List Deferred) : ({ a with defers := ds } : Act).eval = a.eval := by
  funext x; cases x <;> rfl
theorem wpOp_put {K : World → Prop} {j : Nat} {oi oj : Oper} {v : Value} (hj : ops[j]? = some oj) (hap : oi.apart ops oj = true)
    (hsi : ∀ cs b, oi.op ≠ .select cs b) (hsj : ∀ cs b, oj.op ≠ .select cs b) {next : Act → World → Prop} {a : Act} {w : World}
    (hy : YieldsK P ops K oi v a) (h : wpOp P ops NoQ j next (a.put oi.dst v) w) :
    wpOp P ops NoQ j (fun a' w' => YieldsK P ops K oi v a' ∧ next (a'.put oi.dst v) w') a w := by
  obtain ⟨h1, h2, h3⟩ := Oper.apart_spec hap
  have keep : ∀ (a : Act), YieldsK P ops K oi v a → ∀ u, YieldsK P ops K oi v (a.put oj.dst u) := fun a hy u =>
    hy.of_same (execOp_put oi hsi a oj.dst u h3) (wanted_put oi a oj.dst u h3)
  unfold wpOp at *
  simp only [hj] at *
  rw [wanted_put oj a oi.dst v h1] at h
  split
  · rename_i hw
    rw [if_pos hw] at h
    rcases h with h | ⟨_, _, _, hf⟩
    case inr => exact hf.elim
    left
    unfold Oper.wp at *
    rw [execOp_put oj hsj a oi.dst v h1] at h
    generalize (execOp a.eval oj).run P w = r at *
    cases r with
    | ok n w' =>
      cases n <;> simp only [Oper.upon] at h ⊢ <;> try exact h
      case value u => exact ⟨keep a hy u, by rw [← Act.put_comm a v u h2]; exact h⟩
      case skip => exact ⟨keep a hy _, by rw [← Act.put_comm a v undef h2]; exact h⟩
      case defer d =>
        have hyd : YieldsK P ops K oi v { a with defers := d :: a.defers } := hy.of_same (by rw [eval_defers]) rfl
        refine ⟨keep _ hyd _, ?_⟩
        rw [← Act.put_comm _ v undef h2, ← Act.put_defers]
        exact h
      case enter f args =>
        refine h.mono fun e w'' he => ?_
        cases e with
        | returned u => exact ⟨keep a hy u, by rw [← Act.put_comm a v u h2]; exact he⟩
        | panicked c => exact he.elim
        | outgrown => obtain ⟨_, _, hf⟩ := he; exact hf.elim
      case row r as =>
        refine Rows.mono h fun u w'' he => ⟨keep a hy u, by rw [← Act.put_comm a v u h2]; exact he⟩
    | halt x w' => cases x <;> exact False.elim h
  · rename_i hw
    rw [if_neg hw] at h
    exact ⟨keep a hy _, by rw [← Act.put_comm a v undef h2]; exact h⟩

/-- Does operation j wait for operation k, at once or not? -/
def waitsFor (ops : Array Oper) : Nat → Nat → Nat → Bool
  | 0, _, _ => false
  | f + 1, j, k => match ops[j]? with
    | some o => o.after.any fun e => Region.binds .any e && (e.on == k || waitsFor ops f e.on k)
    | none => false
/-- Whatever is listed has what it waits for listed. -/
def ClosedL (ops : Array Oper) (l : Array Bool) : Prop := ∀ (j : Nat) (o : Oper), ops[j]? = some o → l.getD j false = true → ∀ e ∈ o.after, Region.binds .any e = true → l.getD e.on false = true
theorem ClosedL.waits {l : Array Bool} (h : ClosedL ops l) : ∀ (f j k : Nat), waitsFor ops f j k = true → l.getD j false = true → l.getD k false = true
  | 0, j, k, e, _ => by cases e
  | f + 1, j, k, e, hj => by
    unfold waitsFor at e
    split at e
    · rename_i o ho
      obtain ⟨x, hx, hb⟩ := Array.any_eq_true'.1 e
      simp only [Bool.and_eq_true, Bool.or_eq_true, beq_iff_eq] at hb
      have hl := h j o ho hj x hx hb.1
      rcases hb.2 with e2 | e2
      · rw [← e2]; exact hl
      · exact h.waits f _ k e2 hl
    · cases e
theorem ClosedL.set {l : Array Bool} (h : ClosedL ops l) {i : Nat} (hi : i ∈ Region.ready .any ops l) : ClosedL ops (l.setIfInBounds i true) := by
  intro j o ho hj e he hb
  by_cases hji : j = i
  · subst hji
    obtain ⟨_, oi, hoi, hall⟩ := mem_ready.1 hi
    rw [ho] at hoi
    cases hoi
    exact getD_set_true l j _ (hall e he hb)
  · have : l.getD j false = true := by
      have hne : i ≠ j := fun h => hji h.symm
      simpa [Array.getElem?_setIfInBounds_ne hne] using hj
    exact getD_set_true l i _ (h j o ho this e he hb)
theorem ClosedL.start (n : Nat) : ClosedL ops (Array.replicate n false) := by
  intro j o ho hj
  rcases Nat.lt_or_ge j n with h | h <;> simp [h] at hj

theorem wpAnyK_first {K' : Array Bool → World → Prop} {Q : Act → World → Prop} {i : Nat} {oi : Oper} {v : Value} (hi : ops[i]? = some oi) (hsel : ∀ (j : Nat) (o : Oper) cs b, ops[j]? = some o → o.op ≠ .select cs b)
    (hKi : ∀ l w, ClosedL ops l → l.getD i false = false → K (l.setIfInBounds i true) w → Ki w) (hK1 : ∀ l w, K l w → K' l w) (hK2 : ∀ l w, K (l.setIfInBounds i true) w → K' l w) :
    ∀ (fuel : Nat) (listed : Array Bool) (a : Act) (w : World),
      (∀ j oj, ops[j]? = some oj → j ≠ i → listed.getD j true = false → (∀ e ∈ oj.after, Region.binds .any e = true → e.on ≠ i) → oi.apart ops oj = true) →
      ClosedL ops listed → i ∈ Region.ready .any ops listed → YieldsK P ops Ki oi v a → Ki w →
      wpAnyK P ops K Q fuel (listed.setIfInBounds i true) (a.put oi.dst v) w → wpAnyK P ops K' Q (fuel + 1) listed a w := by
  intro fuel
  have unl : ∀ {l : Array Bool}, i ∈ Region.ready .any ops l → l.getD i false = false := by
    intro l hr
    have h0 := (mem_ready.1 hr).1
    rcases Nat.lt_or_ge i l.size with h' | h'
    · simp [h'] at h0 ⊢; exact h0
    · simp [Array.getElem?_eq_none h']
  have root : ∀ {fuel l a w}, wpAnyK P ops K Q fuel l a w → K l w := by
    intro fuel l a w h
    cases fuel <;> exact h.1
  induction fuel with
  | zero =>
    intro listed a w _ hcl hr hy hK H
    refine ⟨hK2 _ _ (root H), fun h => (by rw [h] at hr; cases hr), fun j hj => ?_⟩
    by_cases hji : j = i
    · subst hji; exact hy.wpOp hi hK (wpAnyK_mono _ _ _ _ (fun l w _ hl => hK1 l w hl) H)
    · have := ready_mono hj hji
      rw [H.2.1] at this
      cases this
  | succ fuel ih =>
    intro listed a w hfree hcl hr hy hK H
    refine ⟨hK2 _ _ (root H), fun h => (by rw [h] at hr; cases hr), fun j hj => ?_⟩
    by_cases hji : j = i
    · subst hji; exact hy.wpOp hi hK (wpAnyK_mono _ _ _ _ (fun l w _ hl => hK1 l w hl) H)
    · have h1 := H.2.2 j (ready_mono hj hji)
      obtain ⟨hjun, oj, hoj, hall⟩ := mem_ready.1 hj
      have hnot : ∀ e ∈ oj.after, Region.binds .any e = true → e.on ≠ i := fun e he hb heq => by
        have h1 := hall e he hb
        have h0 := (mem_ready.1 hr).1
        rw [heq] at h1
        rcases Nat.lt_or_ge i listed.size with h' | h'
        · simp [h'] at h0 h1; rw [h0] at h1; cases h1
        · simp [Array.getElem?_eq_none h'] at h1
      have h2 := wpOp_put hoj (hfree j oj hoj hji hjun hnot) (fun cs b => hsel i oi cs b hi) (fun cs b => hsel j oj cs b hoj) hy h1
      have hfree' : ∀ k ok, ops[k]? = some ok → k ≠ i → (listed.setIfInBounds j true).getD k true = false →
          (∀ e ∈ ok.after, Region.binds .any e = true → e.on ≠ i) → oi.apart ops ok = true := fun k ok hk hki hun hno => by
        refine hfree k ok hk hki ?_ hno
        by_cases hjk : j = k
        · subst hjk; exact hjun
        · rw [getD_set_ne true hjk] at hun; exact hun
      refine wpOp_mono (fun a' w' h3 => ?_) h2
      have hr' := ready_mono hr (Ne.symm hji)
      have hcl' := hcl.set hj
      have hroot := root h3.2
      rw [Array.setIfInBounds_comm _ _ (Ne.symm hji)] at hroot
      have hK' : Ki w' := hKi _ _ hcl' (unl hr') hroot
      refine ih (listed.setIfInBounds j true) a' w' hfree' hcl' hr' h3.1 hK' ?_
      rw [Array.setIfInBounds_comm _ _ hji]
      exact h3.2
end

/-! ### Which operations may be taken first -/
def pureOp (o : Oper) : Bool :=
  match o.op with
  | .move _ | .assign _ | .pick .. | .build .. | .nilCheck _ | .binOp .. | .unOp .. | .convert .. | .makeInterface .. | .makeFunc .. | .fieldAddr .. | .field .. | .indexAddr .. | .index .. | .extract .. => true
  | .call c => (match c.callee with
    | .builtin .len | .builtin .min | .builtin .max => true
    | _ => false)
  | _ => false
section
variable {Φ : Phi} {C : Ctx} {ρ : Env} {h : H} {w : World} {P : Program}
def OpDoesA (P : Program) (ev : Operand → Value) (o : Oper) (w : World) (h : H) : SV → Env → H → World → Prop := fun sv ρ1 h1 w1 =>
  w1 = w ∧ h1.hp = h.hp ∧ ∃ v, SvIs ρ1 sv v ∧ ∀ W, (execOp ev o).run P W = .ok (.value v) W

set_option maxHeartbeats 4000000 in
theorem opM_specA {ro : List (Addr × Value)} {sl : Slots} {a : Act} (r : RepS ρ sl a) (o : Oper) (hp : pureOp o = true) :
    MSpec Φ C (opM P ro (evalO sl) o) ρ h w (OpDoesA P a.eval o w h) := by
  have E : ∀ {x : Operand}, ∀ y, evalO sl x = some y → SvIs ρ y (a.eval x) := fun y hy => evalO_is r hy
  have valV : ∀ (m : M SV) (s : Sem Value), execOp a.eval o = (do pure (.value (← s))) → MSpec Φ C m ρ h w (DoesV P w h s) → MSpec Φ C m ρ h w (OpDoesA P a.eval o w h) := by
    intro m s hs hm
    refine hm.mono ?_
    rintro sv ρ1 h1 w1 l ⟨e1, e2, v, hv, hr⟩
    exact ⟨e1, e2, v, hv, fun W => by rw [hs]; simp [hr W]⟩
  obtain ⟨dst, op, type, pos, after, guard⟩ := o
  cases op <;> simp only [opM] <;> try exact MSpec.no
  case move x => exact (lift_spec (P := P) (s := pure (a.eval x)) E (fun W => by simp)).mono (by rintro sv ρ1 h1 w1 l ⟨e1, e2, v, hv, hr⟩; exact ⟨e1, e2, v, hv, fun W => by simpa [execOp] using hr W⟩)
  case assign x => exact (lift_spec (P := P) (s := pure (a.eval x)) E (fun W => by simp)).mono (by rintro sv ρ1 h1 w1 l ⟨e1, e2, v, hv, hr⟩; exact ⟨e1, e2, v, hv, fun W => by simpa [execOp] using hr W⟩)
  case pick c x y =>
    refine (pickM_spec (P := P) (cv := a.eval c) (av := a.eval x) (bv := a.eval y) E E E).mono ?_
    rintro sv ρ1 h1 w1 l ⟨e1, e2, v, hv, hr⟩
    refine ⟨e1, e2, v, hv, fun W => ?_⟩
    have hr := hr W
    simp only [execOp, Sem.run_bind] at hr ⊢
    cases hb : (asBool (a.eval c)).run P W with
    | ok b w' =>
      rw [hb] at hr
      simp only [Result.andThen_ok, Sem.run_pure, Result.ok.injEq] at hr ⊢
      rw [hr.1]; exact ⟨rfl, hr.2⟩
    | halt x w' => rw [hb] at hr; cases hr
  case alloc t => cases hp
  case box t x => cases hp
  case build t ps => exact valV _ (Instr.build t (ps.map fun (i, x) => (i, a.eval x))) rfl (buildM_spec (by simpa using parts_are r ps.toList))
  case buildSlice t n ps => cases hp
  case load t x => cases hp
  case store t p x => cases hp
  case nilCheck x =>
    refine with1_spec E fun y hy => (nilChk_spec (P := P) (w := w) hy (o := ⟨dst, .nilCheck x, type, pos, after, guard⟩) rfl rfl).mono ?_
    rintro sv ρ1 h1 w1 l ⟨e1, e2, v, hv, hr⟩
    exact ⟨e1, e2, v, hv, hr⟩
  case binOp op t x y ty =>
    refine valV _ _ rfl (with1_spec E fun u hu => with1_spec E fun v hv => binM_spec hu hv)
  case unOp op t x => exact valV _ _ rfl (with1_spec E fun y hy => unM_spec hy)
  case convert s d x => exact valV _ _ rfl (with1_spec E fun y hy => convM_spec hy)
  case makeInterface t x => exact valV _ _ rfl (with1_spec E fun y hy => mkIfaceM_spec hy)
  case makeFunc f first cs =>
    split
    · rename_i hf
      split
      · rename_i xs exs
        have hx := allSome_is r cs.toList xs exs
        refine MSpec.ret ⟨rfl, rfl, .func f #[] (SV.dens ρ xs).toArray, ⟨by rw [SV.ok]; exact hx.1, by rw [SV.den]⟩, fun W => ?_⟩
        have e1 : first.map a.eval = #[] := by rw [Array.eq_empty_of_size_eq_zero hf]; simp
        have e2 : cs.map a.eval = (SV.dens ρ xs).toArray := by rw [hx.2, ← Array.toList_map]
        simp only [execOp, Instr.makeFunc, e1, e2]
        simp
      · exact MSpec.no
    · exact MSpec.no
  case makeSlice t l c => cases hp
  case fieldAddr t x i => exact valV _ _ rfl (with1_spec E fun y hy => fieldAddrM_spec hy)
  case field t x i => exact valV _ _ rfl (with1_spec E fun y hy => fieldM_spec hy)
  case indexAddr t x i => exact valV _ _ rfl (with1_spec E fun y hy => with1_spec E fun z hz => indexAddrM_spec hy hz)
  case index t x i => exact valV _ _ rfl (with1_spec E fun y hy => with1_spec E fun z hz => indexM_spec hy hz)
  case extract x i => exact valV _ _ rfl (with1_spec E fun y hy => extractM_spec hy)
  case call c =>
    obtain ⟨callee, args, argTypes⟩ := c
    cases callee <;> simp only <;> try exact MSpec.no
    rename_i b
    refine (builtinM_spec (P := P) (ty := type) (vs := args.map a.eval) (by simpa using args_are r args.toList)).mono ?_
    rintro sv ρ1 h1 w1 l ⟨e1, e2, v, hv, hr⟩
    exact ⟨e1, e2, v, hv, fun W => by simp [execOp, resolve, invoke, hr]⟩
end
end Go.Sx
