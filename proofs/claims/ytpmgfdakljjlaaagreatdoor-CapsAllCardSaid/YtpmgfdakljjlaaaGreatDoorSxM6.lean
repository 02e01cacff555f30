/- The executor: texts of it, one behind another. -/
import Derived.Test.YtpmgfdakljjlaaaGreatDoorSxM5
import Derived.Still
set_option linter.unusedVariables false
set_option linter.constructorNameAsVariable false
/- Regions that draw their order. -/
set_option linter.unusedVariables false
namespace Go.Sx

section
variable {P : Program} {ops : Array Oper} {K : Array Bool → World → Prop} {Ki : World → Prop}
abbrev NoQ : Exit → Act → World → Prop := fun _ _ _ => False
def wpAnyK (P : Program) (ops : Array Oper) (K : Array Bool → World → Prop) (Q : Act → World → Prop) : Nat → Array Bool → Act → World → Prop
  | 0, listed, a, w => K listed w ∧ Region.ready .any ops listed = [] ∧ Q a w
  | fuel + 1, listed, a, w => K listed w ∧ (Region.ready .any ops listed = [] → Q a w) ∧
    ∀ i ∈ Region.ready .any ops listed, wpOp P ops NoQ i (wpAnyK P ops K Q fuel (listed.setIfInBounds i true)) a w
/-- All that was listed before is. -/
def Lists (l l' : Array Bool) : Prop := ∀ m, l.getD m false = true → l'.getD m false = true
theorem Lists.refl (l : Array Bool) : Lists l l := fun _ h => h
theorem getD_set_true (l : Array Bool) (i m : Nat) (h : l.getD m false = true) : (l.setIfInBounds i true).getD m false = true := by
  by_cases e : i = m
  · subst e
    rcases Nat.lt_or_ge i l.size with h' | h'
    · simp [h']
    · simp [Array.getElem?_eq_none h'] at h
  · simpa [Array.getElem?_setIfInBounds_ne e] using h
theorem Lists.set {l l' : Array Bool} {i : Nat} (h : Lists (l.setIfInBounds i true) l') : Lists l l' := fun m hm => h m (getD_set_true l i m hm)
theorem Oper.wp_Q {o : Oper} {a : Act} {w : World} {next : Act → World → Prop} {Q : Exit → Act → World → Prop} (h : o.wp P a w next NoQ) : o.wp P a w next Q := by
  unfold Oper.wp at *
  generalize (execOp a.eval o).run P w = r at *
  cases r with
  | ok n w' =>
    cases n <;> simp only [Oper.upon] at h ⊢ <;> try exact h
    refine h.mono fun e w'' he => ?_
    cases e with
    | returned v => exact he
    | panicked c => exact he.elim
    | outgrown => obtain ⟨_, _, hf⟩ := he; exact hf.elim
  | halt x w' => cases x <;> exact False.elim h
theorem wpOp_Q {i : Nat} {a : Act} {w : World} {next : Act → World → Prop} {Q : Exit → Act → World → Prop} (h : wpOp P ops NoQ i next a w) : wpOp P ops Q i next a w := by
  unfold wpOp at *
  split
  · rename_i ho; rw [ho] at h; exact h
  · rename_i o ho
    rw [ho] at h
    simp only at h
    split
    · rename_i hw
      rw [if_pos hw] at h
      rcases h with h | ⟨_, _, _, hf⟩
      · exact .inl (Oper.wp_Q h)
      · exact hf.elim
    · rename_i hw; rw [if_neg hw] at h; exact h
theorem wpAnyK_any {Q : Act → World → Prop} {Q' : Exit → Act → World → Prop} (hQ : ∀ a w, Q a w → Q' .normal a w) : ∀ (fuel : Nat) (listed : Array Bool) (a : Act) (w : World),
    wpAnyK P ops K Q fuel listed a w → wpAny P .any ops Q' fuel listed a w
  | 0, _, _, _, h => ⟨h.2.1, hQ _ _ h.2.2⟩
  | fuel + 1, _, _, _, h => ⟨fun h0 => hQ _ _ (h.2.1 h0), fun i hi => wpOp_Q (wpOp_mono (fun a w hh => wpAnyK_any hQ fuel _ a w hh) (h.2.2 i hi))⟩
theorem wpAnyK_mono {K' : Array Bool → World → Prop} {Q : Act → World → Prop} : ∀ (fuel : Nat) (listed : Array Bool) (a : Act) (w : World), (∀ l w, Lists listed l → K l w → K' l w) → wpAnyK P ops K Q fuel listed a w → wpAnyK P ops K' Q fuel listed a w
  | 0, listed, _, _, hK, h => ⟨hK _ _ (Lists.refl _) h.1, h.2⟩
  | fuel + 1, listed, _, _, hK, h => ⟨hK _ _ (Lists.refl _) h.1, h.2.1, fun i hi => wpOp_mono (fun a w hh => wpAnyK_mono fuel _ a w (fun l w hl => hK l w hl.set) hh) (h.2.2 i hi)⟩

/-- In every world of the class the operation gives v and leaves the world. -/
def YieldsK (P : Program) (ops : Array Oper) (K : World → Prop) (o : Oper) (v : Value) (a : Act) : Prop :=
  (Region.wanted o (yielded ops a.tmps) = true ∧ ∀ w, K w → (execOp a.eval o).run P w = .ok (.value v) w) ∨ (Region.wanted o (yielded ops a.tmps) = false ∧ v = undef)
theorem YieldsK.of_same {K : World → Prop} {o : Oper} {v : Value} {a a' : Act} (hy : YieldsK P ops K o v a) (he : execOp a'.eval o = execOp a.eval o)
    (hw : Region.wanted o (yielded ops a'.tmps) = Region.wanted o (yielded ops a.tmps)) : YieldsK P ops K o v a' := by
  unfold YieldsK at *; rw [he, hw]; exact hy
theorem YieldsK.wpOp {K : World → Prop} {i : Nat} {o : Oper} {v : Value} {a : Act} {w : World} (hi : ops[i]? = some o) (hy : YieldsK P ops K o v a) (hK : K w) {next : Act → World → Prop} (h : next (a.put o.dst v) w) :
    wpOp P ops NoQ i next a w := by
  unfold Go.wpOp
  rw [hi]
  simp only
  rcases hy with ⟨hw, hv⟩ | ⟨hw, rfl⟩
  · rw [if_pos hw]
    left
    unfold Oper.wp
    rw [hv w hK]
    exact h
  · rw [if_neg (by simp [hw])]
    exact h

theorem eval_defers (a : Act) (ds : List Deferred) : ({ a with defers := ds } : Act).eval = a.eval := by
  funext x; cases x <;> rfl
theorem wpOp_put {K : World → Prop} {j : Nat} {oi oj : Oper} {v : Value} (hj : ops[j]? = some oj) (hap : oi.apart ops oj = true)
    (hsi : ∀ cs b, oi.op ≠ .select cs b) (hsj : ∀ cs b, oj.op ≠ .select cs b) {next : Act → World → Prop} {a : Act} {w : World}
    (hy : YieldsK P ops K oi v a) (h : wpOp P ops NoQ j next (a.put oi.dst v) w) :
    wpOp P ops NoQ j (fun a' w' => YieldsK P ops K oi v a' ∧ next (a'.put oi.dst v) w') a w := by
  obtain ⟨h1, h2, h3⟩ := Oper.apart_spec hap
  have keep : ∀ (a : Act), YieldsK P ops K oi v a → ∀ u, YieldsK P ops K oi v (a.put oj.dst u) := fun a hy u =>
    hy.of_same (execOp_put oi hsi a oj.dst u h3) (wanted_put oi a oj.dst u h3)
  unfold wpOp at *
  simp only [hj] at *
  rw [wanted_put oj a oi.dst v h1] at h
  split
  · rename_i hw
    rw [if_pos hw] at h
    rcases h with h | ⟨_, _, _, hf⟩
    case inr => exact hf.elim
    left
    unfold Oper.wp at *
    rw [execOp_put oj hsj a oi.dst v h1] at h
    generalize (execOp a.eval oj).run P w = r at *
    cases r with
    | ok n w' =>
      cases n <;> simp only [Oper.upon] at h ⊢ <;> try exact h
      case value u => exact ⟨keep a hy u, by rw [← Act.put_comm a v u h2]; exact h⟩
      case skip => exact ⟨keep a hy _, by rw [← Act.put_comm a v undef h2]; exact h⟩
      case defer d =>
        have hyd : YieldsK P ops K oi v { a with defers := d :: a.defers } := hy.of_same (by rw [eval_defers]) rfl
        refine ⟨keep _ hyd _, ?_⟩
        rw [← Act.put_comm _ v undef h2, ← Act.put_defers]
        exact h
      case enter f args =>
        refine h.mono fun e w'' he => ?_
        cases e with
        | returned u => exact ⟨keep a hy u, by rw [← Act.put_comm a v u h2]; exact he⟩
        | panicked c => exact he.elim
        | outgrown => obtain ⟨_, _, hf⟩ := he; exact hf.elim
      case row r as =>
        refine Rows.mono h fun u w'' he => ⟨keep a hy u, by rw [← Act.put_comm a v u h2]; exact he⟩
    | halt x w' => cases x <;> exact False.elim h
  · rename_i hw
    rw [if_neg hw] at h
    exact ⟨keep a hy _, by rw [← Act.put_comm a v undef h2]; exact h⟩

/-- Does operation j wait for operation k, at once or not? -/
def waitsFor (ops : Array Oper) : Nat → Nat → Nat → Bool
  | 0, _, _ => false
  | f + 1, j, k => match ops[j]? with
    | some o => o.after.any fun e => Region.binds .any e && (e.on == k || waitsFor ops f e.on k)
    | none => false
/-- Whatever is listed has what it waits for listed. -/
def ClosedL (ops : Array Oper) (l : Array Bool) : Prop := ∀ (j : Nat) (o : Oper), ops[j]? = some o → l.getD j false = true → ∀ e ∈ o.after, Region.binds .any e = true → l.getD e.on false = true
theorem ClosedL.waits {l : Array Bool} (h : ClosedL ops l) : ∀ (f j k : Nat), waitsFor ops f j k = true → l.getD j false = true → l.getD k false = true
  | 0, j, k, e, _ => by cases e
  | f + 1, j, k, e, hj => by
    unfold waitsFor at e
    split at e
    · rename_i o ho
      obtain ⟨x, hx, hb⟩ := Array.any_eq_true'.1 e
      simp only [Bool.and_eq_true, Bool.or_eq_true, beq_iff_eq] at hb
      have hl := h j o ho hj x hx hb.1
      rcases hb.2 with e2 | e2
      · rw [← e2]; exact hl
      · exact h.waits f _ k e2 hl
    · cases e
theorem ClosedL.set {l : Array Bool} (h : ClosedL ops l) {i : Nat} (hi : i ∈ Region.ready .any ops l) : ClosedL ops (l.setIfInBounds i true) := by
  intro j o ho hj e he hb
  by_cases hji : j = i
  · subst hji
    obtain ⟨_, oi, hoi, hall⟩ := mem_ready.1 hi
    rw [ho] at hoi
    cases hoi
    exact getD_set_true l j _ (hall e he hb)
  · have : l.getD j false = true := by
      have hne : i ≠ j := fun h => hji h.symm
      simpa [Array.getElem?_setIfInBounds_ne hne] using hj
    exact getD_set_true l i _ (h j o ho this e he hb)
theorem ClosedL.start (n : Nat) : ClosedL ops (Array.replicate n false) := by
  intro j o ho hj
  rcases Nat.lt_or_ge j n with h | h <;> simp [h] at hj

theorem wpAnyK_first {K' : Array Bool → World → Prop} {Q : Act → World → Prop} {i : Nat} {oi : Oper} {v : Value} (hi : ops[i]? = some oi) (hsel : ∀ (j : Nat) (o : Oper) cs b, ops[j]? = some o → o.op ≠ .select cs b)
    (hKi : ∀ l w, ClosedL ops l → l.getD i false = false → K (l.setIfInBounds i true) w → Ki w) (hK1 : ∀ l w, K l w → K' l w) (hK2 : ∀ l w, K (l.setIfInBounds i true) w → K' l w) :
    ∀ (fuel : Nat) (listed : Array Bool) (a : Act) (w : World),
      (∀ j oj, ops[j]? = some oj → j ≠ i → listed.getD j true = false → (∀ e ∈ oj.after, Region.binds .any e = true → e.on ≠ i) → oi.apart ops oj = true) →
      ClosedL ops listed → i ∈ Region.ready .any ops listed → YieldsK P ops Ki oi v a → Ki w →
      wpAnyK P ops K Q fuel (listed.setIfInBounds i true) (a.put oi.dst v) w → wpAnyK P ops K' Q (fuel + 1) listed a w := by
  intro fuel
  have unl : ∀ {l : Array Bool}, i ∈ Region.ready .any ops l → l.getD i false = false := by
    intro l hr
    have h0 := (mem_ready.1 hr).1
    rcases Nat.lt_or_ge i l.size with h' | h'
    · simp [h'] at h0 ⊢; exact h0
    · simp [Array.getElem?_eq_none h']
  have root : ∀ {fuel l a w}, wpAnyK P ops K Q fuel l a w → K l w := by
    intro fuel l a w h
    cases fuel <;> exact h.1
  induction fuel with
  | zero =>
    intro listed a w _ hcl hr hy hK H
    refine ⟨hK2 _ _ (root H), fun h => (by rw [h] at hr; cases hr), fun j hj => ?_⟩
    by_cases hji : j = i
    · subst hji; exact hy.wpOp hi hK (wpAnyK_mono _ _ _ _ (fun l w _ hl => hK1 l w hl) H)
    · have := ready_mono hj hji
      rw [H.2.1] at this
      cases this
  | succ fuel ih =>
    intro listed a w hfree hcl hr hy hK H
    refine ⟨hK2 _ _ (root H), fun h => (by rw [h] at hr; cases hr), fun j hj => ?_⟩
    by_cases hji : j = i
    · subst hji; exact hy.wpOp hi hK (wpAnyK_mono _ _ _ _ (fun l w _ hl => hK1 l w hl) H)
    · have h1 := H.2.2 j (ready_mono hj hji)
      obtain ⟨hjun, oj, hoj, hall⟩ := mem_ready.1 hj
      have hnot : ∀ e ∈ oj.after, Region.binds .any e = true → e.on ≠ i := fun e he hb heq => by
        have h1 := hall e he hb
        have h0 := (mem_ready.1 hr).1
        rw [heq] at h1
        rcases Nat.lt_or_ge i listed.size with h' | h'
        · simp [h'] at h0 h1; rw [h0] at h1; cases h1
        · simp [Array.getElem?_eq_none h'] at h1
      have h2 := wpOp_put hoj (hfree j oj hoj hji hjun hnot) (fun cs b => hsel i oi cs b hi) (fun cs b => hsel j oj cs b hoj) hy h1
      have hfree' : ∀ k ok, ops[k]? = some ok → k ≠ i → (listed.setIfInBounds j true).getD k true = false →
          (∀ e ∈ ok.after, Region.binds .any e = true → e.on ≠ i) → oi.apart ops ok = true := fun k ok hk hki hun hno => by
        refine hfree k ok hk hki ?_ hno
        by_cases hjk : j = k
        · subst hjk; exact hjun
        · rw [getD_set_ne true hjk] at hun; exact hun
      refine wpOp_mono (fun a' w' h3 => ?_) h2
      have hr' := ready_mono hr (Ne.symm hji)
      have hcl' := hcl.set hj
      have hroot := root h3.2
      rw [Array.setIfInBounds_comm _ _ (Ne.symm hji)] at hroot
      have hK' : Ki w' := hKi _ _ hcl' (unl hr') hroot
      refine ih (listed.setIfInBounds j true) a' w' hfree' hcl' hr' h3.1 hK' ?_
      rw [Array.setIfInBounds_comm _ _ hji]
      exact h3.2
end

/-! ### Which operations may be taken first -/
def pureOp (o : Oper) : Bool :=
  match o.op with
  | .move _ | .assign _ | .pick .. | .build .. | .nilCheck _ | .binOp .. | .unOp .. | .convert .. | .makeInterface .. | .makeFunc .. | .fieldAddr .. | .field .. | .indexAddr .. | .index .. | .extract .. => true
  | .call c => (match c.callee with
    | .builtin .len | .builtin .min | .builtin .max => true
    | _ => false)
  | _ => false
section
variable {Φ : Phi} {C : Ctx} {ρ : Env} {h : H} {w : World} {P : Program}
def OpDoesA (P : Program) (ev : Operand → Value) (o : Oper) (w : World) (h : H) : SV → Env → H → World → Prop := fun sv ρ1 h1 w1 =>
  w1 = w ∧ h1.hp = h.hp ∧ ∃ v, SvIs ρ1 sv v ∧ ∀ W, (execOp ev o).run P W = .ok (.value v) W

set_option maxHeartbeats 4000000 in
theorem opM_specA {ro : List (Addr × Value)} {sl : Slots} {a : Act} (r : RepS ρ sl a) (o : Oper) (hp : pureOp o = true) :
    MSpec Φ C (opM P ro (evalO sl) o) ρ h w (OpDoesA P a.eval o w h) := by
  have E : ∀ {x : Operand}, ∀ y, evalO sl x = some y → SvIs ρ y (a.eval x) := fun y hy => evalO_is r hy
  have valV : ∀ (m : M SV) (s : Sem Value), execOp a.eval o = (do pure (.value (← s))) → MSpec Φ C m ρ h w (DoesV P w h s) → MSpec Φ C m ρ h w (OpDoesA P a.eval o w h) := by
    intro m s hs hm
    refine hm.mono ?_
    rintro sv ρ1 h1 w1 l ⟨e1, e2, v, hv, hr⟩
    exact ⟨e1, e2, v, hv, fun W => by rw [hs]; simp [hr W]⟩
  obtain ⟨dst, op, type, pos, after, guard⟩ := o
  cases op <;> simp only [opM] <;> try exact MSpec.no
  case move x => exact (lift_spec (P := P) (s := pure (a.eval x)) E (fun W => by simp)).mono (by rintro sv ρ1 h1 w1 l ⟨e1, e2, v, hv, hr⟩; exact ⟨e1, e2, v, hv, fun W => by simpa [execOp] using hr W⟩)
  case assign x => exact (lift_spec (P := P) (s := pure (a.eval x)) E (fun W => by simp)).mono (by rintro sv ρ1 h1 w1 l ⟨e1, e2, v, hv, hr⟩; exact ⟨e1, e2, v, hv, fun W => by simpa [execOp] using hr W⟩)
  case pick c x y =>
    refine (pickM_spec (P := P) (cv := a.eval c) (av := a.eval x) (bv := a.eval y) E E E).mono ?_
    rintro sv ρ1 h1 w1 l ⟨e1, e2, v, hv, hr⟩
    refine ⟨e1, e2, v, hv, fun W => ?_⟩
    have hr := hr W
    simp only [execOp, Sem.run_bind] at hr ⊢
    cases hb : (asBool (a.eval c)).run P W with
    | ok b w' =>
      rw [hb] at hr
      simp only [Result.andThen_ok, Sem.run_pure, Result.ok.injEq] at hr ⊢
      rw [hr.1]; exact ⟨rfl, hr.2⟩
    | halt x w' => rw [hb] at hr; cases hr
  case alloc t => cases hp
  case box t x => cases hp
  case build t ps => exact valV _ (Instr.build t (ps.map fun (i, x) => (i, a.eval x))) rfl (buildM_spec (by simpa using parts_are r ps.toList))
  case buildSlice t n ps => cases hp
  case load t x => cases hp
  case store t p x => cases hp
  case nilCheck x =>
    refine with1_spec E fun y hy => (nilChk_spec (P := P) (w := w) hy (o := ⟨dst, .nilCheck x, type, pos, after, guard⟩) rfl rfl).mono ?_
    rintro sv ρ1 h1 w1 l ⟨e1, e2, v, hv, hr⟩
    exact ⟨e1, e2, v, hv, hr⟩
  case binOp op t x y ty =>
    refine valV _ _ rfl (with1_spec E fun u hu => with1_spec E fun v hv => binM_spec hu hv)
  case unOp op t x => exact valV _ _ rfl (with1_spec E fun y hy => unM_spec hy)
  case convert s d x => exact valV _ _ rfl (with1_spec E fun y hy => convM_spec hy)
  case makeInterface t x => exact valV _ _ rfl (with1_spec E fun y hy => mkIfaceM_spec hy)
  case makeFunc f first cs =>
    split
    · rename_i hf
      split
      · rename_i xs exs
        have hx := allSome_is r cs.toList xs exs
        refine MSpec.ret ⟨rfl, rfl, .func f #[] (SV.dens ρ xs).toArray, ⟨by rw [SV.ok]; exact hx.1, by rw [SV.den]⟩, fun W => ?_⟩
        have e1 : first.map a.eval = #[] := by rw [Array.eq_empty_of_size_eq_zero hf]; simp
        have e2 : cs.map a.eval = (SV.dens ρ xs).toArray := by rw [hx.2, ← Array.toList_map]
        simp only [execOp, Instr.makeFunc, e1, e2]
        simp
      · exact MSpec.no
    · exact MSpec.no
  case makeSlice t l c => cases hp
  case fieldAddr t x i => exact valV _ _ rfl (with1_spec E fun y hy => fieldAddrM_spec hy)
  case field t x i => exact valV _ _ rfl (with1_spec E fun y hy => fieldM_spec hy)
  case indexAddr t x i => exact valV _ _ rfl (with1_spec E fun y hy => with1_spec E fun z hz => indexAddrM_spec hy hz)
  case index t x i => exact valV _ _ rfl (with1_spec E fun y hy => with1_spec E fun z hz => indexM_spec hy hz)
  case extract x i => exact valV _ _ rfl (with1_spec E fun y hy => extractM_spec hy)
  case call c =>
    obtain ⟨callee, args, argTypes⟩ := c
    cases callee <;> simp only <;> try exact MSpec.no
    rename_i b
    refine (builtinM_spec (P := P) (ty := type) (vs := args.map a.eval) (by simpa using args_are r args.toList)).mono ?_
    rintro sv ρ1 h1 w1 l ⟨e1, e2, v, hv, hr⟩
    exact ⟨e1, e2, v, hv, fun W => by simp [execOp, resolve, invoke, hr]⟩
end
end Go.Sx
/- Regions that draw their order (2): the executor's way through them. -/
set_option linter.unusedVariables false
namespace Go.Sx

def loadBlk (o : Oper) (sl : Slots) : Option Nat :=
  match o.op with
  | .load _ x => (match evalO sl x with
    | some (.ptr n _) => some n
    | _ => none)
  | _ => none
def allT (f : Nat → Tree) : List Nat → Tree
  | [] => .fail 191
  | [i] => f i
  | i :: j :: r => .both (f i) (allT f (j :: r))
def sameBlk (h h' : H) (n : Nat) : Bool :=
  match h.blk n, h'.blk n with
  | some b, some b' => blkEq b b'
  | _, _ => false
/-! ### What is told of a region's operations, as bits -/
structure OpI where
  pred : Nat
  looks : Nat
  dst : Option Nat
  anc : Nat
def predM (o : Oper) : Nat := o.after.toList.foldl (fun s e => if Region.binds .any e then s ||| 2 ^ e.on else s) 0
def looksM (ops : Array Oper) (o : Oper) : Nat := (o.looksAt ops).foldl (fun s t => s ||| 2 ^ t) 0
/-- What an operation waits for, at once or not: out of what the earlier ones wait for. -/
def ancOf (acc : List Nat) (o : Oper) : Nat := o.after.toList.foldl (fun s e => if Region.binds .any e then s ||| 2 ^ e.on ||| acc.getD (acc.length - 1 - e.on) 0 * (if e.on < acc.length then 1 else 0) else s) 0
/-- From the last operation on. -/
def ancsR (acc : List Nat) : List Oper → List Nat
  | [] => acc
  | o :: r => ancsR (ancOf acc o :: acc) r
def ancs (ops : Array Oper) : List Nat := (ancsR [] ops.toList).reverse
def waitsM (ops : Array Oper) (j k : Nat) : Bool := ((ancs ops).getD j 0).testBit k
def infosGo (ops : Array Oper) : Nat → List Oper → List (Nat × Oper × OpI)
  | _, [] => []
  | i, o :: r => (i, o, ⟨predM o, looksM ops o, o.dst, 0⟩) :: infosGo ops (i + 1) r
def infos (ops : Array Oper) : List (Nat × Oper × OpI) := infosGo ops 0 ops.toList
def readyM (m : Nat) (x : Nat × Oper × OpI) : Bool := !m.testBit x.1 && Nat.beq (m &&& x.2.2.pred) x.2.2.pred
def apartM (x y : OpI) : Bool :=
  (match x.dst with
   | some d => !y.looks.testBit d && (match y.dst with | some e => !Nat.beq e d | none => true)
   | none => true) &&
  (match y.dst with
   | some d => !x.looks.testBit d
   | none => true)
def freeM (all : List (Nat × Oper × OpI)) (m : Nat) (x : Nat × Oper × OpI) : Bool :=
  all.all fun y => m.testBit y.1 || (Nat.beq y.1 x.1 || (y.2.2.pred.testBit x.1 || apartM x.2.2 y.2.2))
def candM (all : List (Nat × Oper × OpI)) (m : Nat) (sl : Slots) (x : Nat × Oper × OpI) : Bool :=
  readyM m x && ((pureOp x.2.1 || (loadBlk x.2.1 sl).isSome) && freeM all m x)
def readyL (all : List (Nat × Oper × OpI)) (m : Nat) : List Nat := (all.filter (readyM m)).map (·.1)
def drawGo (P : Program) (cfg : Cfg) (ex : CodeF) (ops : Array Oper) : Nat → Nat → List (Nat × Nat) → List Nat → Slots → H → (Slots → H → Tree) → Tree
  | 0, m, _, _, sl, h, k => if (readyL (infos ops) m).isEmpty then k sl h else .fail 190
  | f + 1, m, used, hst, sl, h, k =>
    match (infos ops).find? (candM (infos ops) m sl) with
    | some x => guardM ops sl x.2.1 h fun b h1 =>
        if b then concO cfg sl x.2.1 h1 fun _ h1 => prepO sl x.2.1 h1 fun _ h1 => opM P cfg.ro (evalO sl) x.2.1 h1 fun sv h2 =>
            drawGo P cfg ex ops f (m ||| 2 ^ x.1) (if pureOp x.2.1 then used else (loadBlk x.2.1 sl).toList.map (·, x.1) ++ used) (x.1 :: hst) (putS sl x.2.1.dst sv) h2 k
        else drawGo P cfg ex ops f (m ||| 2 ^ x.1) used (x.1 :: hst) (putS sl x.2.1.dst (.tup [])) h1 k
    | none =>
      if (readyL (infos ops) m).isEmpty then k sl h else
      allT (fun i => match ops[i]? with
        | some o => guardM ops sl o h fun b h1 =>
          if b then stepO P cfg ex o sl h1 fun sv h2 =>
            if (used.filter fun u => !waitsM ops i u.2).all (fun u => sameBlk h1 h2 u.1) && !hst.contains i then
              drawGo P cfg ex ops f (m ||| 2 ^ i) (used.filter fun u => !waitsM ops i u.2) hst (putS sl o.dst sv) h2 k else .fail 193
          else drawGo P cfg ex ops f (m ||| 2 ^ i) used hst (putS sl o.dst (.tup [])) h1 k
        | none => .fail 194) (readyL (infos ops) m)
def drawRegion (P : Program) (cfg : Cfg) (ex : CodeF) (ops : Array Oper) (sl : Slots) (h : H) (k : Slots → H → Tree) : Tree :=
  if Region.noSelect ops then drawGo P cfg ex ops ops.size 0 [] [] sl h k else .fail 195

/-! ### The bits are right -/
theorem testBit_or (m i j : Nat) : (m ||| 2 ^ i).testBit j = (m.testBit j || decide (i = j)) := by
  rw [Nat.testBit_or, Nat.testBit_two_pow]
theorem fold_bits {α : Type} (f : α → Option Nat) : ∀ (l : List α) (s k : Nat), (l.foldl (fun s x => match f x with | some i => s ||| 2 ^ i | none => s) s).testBit k = (s.testBit k || l.any fun x => f x == some k)
  | [], s, k => by simp
  | x :: l, s, k => by
    rw [List.foldl_cons, fold_bits f l]
    cases hx : f x with
    | none => simp [hx]
    | some i =>
      simp only [testBit_or, List.any_cons, hx, Bool.or_assoc]
      congr 1
theorem predM_bit (o : Oper) (k : Nat) : (predM o).testBit k = o.after.toList.any fun e => Region.binds .any e && e.on == k := by
  unfold predM
  have e1 : (fun s (e : Edge) => if Region.binds .any e then s ||| 2 ^ e.on else s) = fun s e => match (if Region.binds .any e then some e.on else none : Option Nat) with | some i => s ||| 2 ^ i | none => s := by
    funext s e
    by_cases hb : Region.binds .any e = true
    · rw [if_pos hb, if_pos hb]
    · rw [if_neg hb, if_neg hb]
  rw [e1, fold_bits fun e : Edge => if Region.binds .any e then some e.on else none]
  rw [Nat.zero_testBit, Bool.false_or]
  congr 1
  funext e
  cases hb : Region.binds .any e with
  | true => rw [if_pos rfl, Bool.true_and]; rfl
  | false => rw [if_neg Bool.false_ne_true, Bool.false_and]; rfl
theorem looksM_bit (ops : Array Oper) (o : Oper) (k : Nat) : (looksM ops o).testBit k = (o.looksAt ops).contains k := by
  unfold looksM
  have e1 : (fun s (t : Tmp) => s ||| 2 ^ t) = fun s (t : Nat) => match (some t : Option Nat) with | some i => s ||| 2 ^ i | none => s := rfl
  rw [e1, fold_bits (fun t => some t)]
  simp only [Nat.zero_testBit, Bool.false_or]
  generalize o.looksAt ops = l
  induction l with
  | nil => rfl
  | cons x l ih =>
    rw [List.any_cons, ih, List.contains_cons]
    congr 1
    rw [Bool.eq_iff_iff, beq_iff_eq, beq_iff_eq]
    exact ⟨fun h => (Option.some.inj h).symm, fun h => congrArg some h.symm⟩
theorem infosGo_mem {ops : Array Oper} : ∀ (l : List Oper) (i : Nat) (x : Nat × Oper × OpI), x ∈ infosGo ops i l ↔ i ≤ x.1 ∧ l[x.1 - i]? = some x.2.1 ∧ x.2.2 = ⟨predM x.2.1, looksM ops x.2.1, x.2.1.dst, 0⟩
  | [], i, x => by simp [infosGo]
  | o :: r, i, x => by
    rw [infosGo, List.mem_cons, infosGo_mem r (i + 1) x]
    constructor
    · rintro (rfl | ⟨h1, h2, h3⟩)
      · simp
      · refine ⟨by omega, ?_, h3⟩
        rw [show x.1 - i = (x.1 - (i + 1)) + 1 by omega, List.getElem?_cons_succ]; exact h2
    · rintro ⟨h1, h2, h3⟩
      by_cases hi : x.1 = i
      · left
        rw [hi, Nat.sub_self, List.getElem?_cons_zero] at h2
        obtain ⟨a, b, c⟩ := x
        simp only at hi h2 h3
        cases h2; subst hi; rw [h3]
      · right
        refine ⟨by omega, ?_, h3⟩
        rw [show x.1 - i = (x.1 - (i + 1)) + 1 by omega, List.getElem?_cons_succ] at h2; exact h2
theorem infos_mem {ops : Array Oper} (x : Nat × Oper × OpI) : x ∈ infos ops ↔ ops[x.1]? = some x.2.1 ∧ x.2.2 = ⟨predM x.2.1, looksM ops x.2.1, x.2.1.dst, 0⟩ := by
  unfold infos
  rw [infosGo_mem]
  simp
/-- The bits are those of what is listed. -/
structure Agree (ops : Array Oper) (m : Nat) (listed : Array Bool) : Prop where
  size : listed.size = ops.size
  bit : ∀ j, m.testBit j = listed.getD j false
theorem Agree.start (ops : Array Oper) : Agree ops 0 (Array.replicate ops.size false) := by
  refine ⟨by simp, fun j => ?_⟩
  rw [Nat.zero_testBit, Array.getD_eq_getD_getElem?, Array.getElem?_replicate]
  split <;> rfl
theorem Agree.set {ops : Array Oper} {m : Nat} {listed : Array Bool} (a : Agree ops m listed) {i : Nat} (hi : i < ops.size) : Agree ops (m ||| 2 ^ i) (listed.setIfInBounds i true) := by
  refine ⟨by simp [a.size], fun j => ?_⟩
  rw [testBit_or, a.bit j, Array.getD_eq_getD_getElem?, Array.getD_eq_getD_getElem?, Array.getElem?_setIfInBounds]
  by_cases hij : i = j
  · subst hij; simp [a.size, hi]
  · simp [hij]
theorem pred_sub {m p : Nat} (h : Nat.beq (m &&& p) p = true) (k : Nat) (hk : p.testBit k = true) : m.testBit k = true := by
  have := Nat.eq_of_beq_eq_true h
  have h2 : (m &&& p).testBit k = p.testBit k := by rw [this]
  rw [Nat.testBit_and, hk, Bool.and_true] at h2
  exact h2
theorem pred_of {m p : Nat} (h : ∀ k, p.testBit k = true → m.testBit k = true) : Nat.beq (m &&& p) p = true := by
  rw [Nat.beq_eq]
  apply Nat.eq_of_testBit_eq
  intro k
  rw [Nat.testBit_and]
  cases hp : p.testBit k with
  | false => simp
  | true => simp [h k hp]
theorem readyM_iff {ops : Array Oper} {m : Nat} {listed : Array Bool} (a : Agree ops m listed) {x : Nat × Oper × OpI} (hx : x ∈ infos ops) : readyM m x = true ↔ x.1 ∈ Region.ready .any ops listed := by
  rw [infos_mem] at hx
  have hlt : x.1 < ops.size := (Array.getElem?_eq_some_iff.1 hx.1).1
  have hg : listed.getD x.1 true = listed.getD x.1 false := by
    simp [Array.getElem?_eq_getElem (show x.1 < listed.size by rw [a.size]; exact hlt)]
  rw [mem_ready, hg, ← a.bit x.1]
  unfold readyM
  rw [hx.2]
  simp only [Bool.and_eq_true, Bool.not_eq_true']
  constructor
  · rintro ⟨h1, h2⟩
    refine ⟨h1, x.2.1, hx.1, fun e he hb => ?_⟩
    rw [← a.bit e.on]
    refine pred_sub h2 _ ?_
    rw [predM_bit, List.any_eq_true]
    exact ⟨e, by simpa using he, by simp [hb]⟩
  · rintro ⟨h1, o, ho, h2⟩
    rw [hx.1] at ho; cases ho
    refine ⟨h1, pred_of fun k hk => ?_⟩
    rw [predM_bit, List.any_eq_true] at hk
    obtain ⟨e, he, hb⟩ := hk
    simp only [Bool.and_eq_true, beq_iff_eq] at hb
    rw [← hb.2, a.bit]
    exact h2 e (by simpa using he) hb.1
theorem apartM_ok {ops : Array Oper} {x y : Oper} (h : apartM ⟨predM x, looksM ops x, x.dst, 0⟩ ⟨predM y, looksM ops y, y.dst, 0⟩ = true) : x.apart ops y = true := by
  unfold apartM at h
  unfold Oper.apart
  simp only [Bool.and_eq_true] at h ⊢
  refine ⟨?_, ?_⟩
  · have h1 := h.1
    cases hd : x.dst with
    | none => rfl
    | some d =>
      rw [hd] at h1
      simp only [looksM_bit, Bool.and_eq_true] at h1 ⊢
      refine ⟨h1.1, ?_⟩
      have h2 := h1.2
      cases he : y.dst with
      | none => rfl
      | some e =>
        rw [he] at h2
        simp only [Bool.not_eq_true'] at h2
        have : e ≠ d := fun c => by subst c; simp at h2
        simpa using this
  · have h1 := h.2
    cases hd : y.dst with
    | none => rfl
    | some d => rw [hd] at h1; simpa only [looksM_bit] using h1
theorem freeM_ok {ops : Array Oper} {m : Nat} {listed : Array Bool} (a : Agree ops m listed) {x : Nat × Oper × OpI} (hx : x ∈ infos ops) (h : freeM (infos ops) m x = true) : Region.free .any ops listed x.1 = true := by
  have hx' := (infos_mem x).1 hx
  unfold Region.free
  rw [hx'.1]
  simp only [List.all_eq_true, List.mem_range]
  intro j hj
  have hjo : ops[j]? = some ops[j] := Array.getElem?_eq_getElem hj
  have hm : (j, ops[j], (⟨predM ops[j], looksM ops ops[j], ops[j].dst, 0⟩ : OpI)) ∈ infos ops := (infos_mem _).2 ⟨hjo, rfl⟩
  have := List.all_eq_true.1 h _ hm
  simp only [Bool.or_eq_true] at this
  have hg : listed.getD j true = listed.getD j false := by
    simp [Array.getElem?_eq_getElem (show j < listed.size by rw [a.size]; exact hj)]
  rw [hjo, hg, ← a.bit j]
  simp only [Bool.or_eq_true, beq_iff_eq]
  rcases this with h1 | h1 | h1 | h1
  · exact .inl (.inr h1)
  · exact .inl (.inl (Nat.eq_of_beq_eq_true h1))
  · right; left
    rw [predM_bit] at h1
    rw [← Array.any_toList]
    exact h1
  · right; right
    rw [hx'.2] at h1
    exact apartM_ok h1
theorem readyL_iff {ops : Array Oper} {m : Nat} {listed : Array Bool} (a : Agree ops m listed) (i : Nat) : i ∈ readyL (infos ops) m ↔ i ∈ Region.ready .any ops listed := by
  unfold readyL
  rw [List.mem_map]
  constructor
  · rintro ⟨x, hx, rfl⟩
    rw [List.mem_filter] at hx
    exact (readyM_iff a hx.1).1 hx.2
  · intro hi
    obtain ⟨_, o, ho, _⟩ := mem_ready.1 hi
    have hm : (i, o, (⟨predM o, looksM ops o, o.dst, 0⟩ : OpI)) ∈ infos ops := (infos_mem _).2 ⟨ho, rfl⟩
    exact ⟨_, List.mem_filter.2 ⟨hm, (readyM_iff a hm).2 hi⟩, rfl⟩
theorem readyL_nil {ops : Array Oper} {m : Nat} {listed : Array Bool} (a : Agree ops m listed) : (readyL (infos ops) m).isEmpty = true ↔ Region.ready .any ops listed = [] := by
  rw [List.isEmpty_iff]
  constructor
  · intro h
    apply List.eq_nil_iff_forall_not_mem.2
    intro i hi
    have := (readyL_iff a i).2 hi
    rw [h] at this; cases this
  · intro h
    apply List.eq_nil_iff_forall_not_mem.2
    intro i hi
    have := (readyL_iff a i).1 hi
    rw [h] at this; cases this
/-- What is told of the operations ahead. -/
structure AncOk (ops : Array Oper) (acc : List Nat) : Prop where
  ok : ∀ j, j < acc.length → ∀ k, (acc.getD (acc.length - 1 - j) 0).testBit k = true → ∀ l : Array Bool, ClosedL ops l → l.getD j false = true → l.getD k false = true
theorem fold_anc (acc : List Nat) : ∀ (es : List Edge) (s k : Nat), (es.foldl (fun s e => if Region.binds .any e then s ||| 2 ^ e.on ||| acc.getD (acc.length - 1 - e.on) 0 * (if e.on < acc.length then 1 else 0) else s) s).testBit k = true →
    s.testBit k = true ∨ ∃ e ∈ es, Region.binds .any e = true ∧ (e.on = k ∨ (e.on < acc.length ∧ (acc.getD (acc.length - 1 - e.on) 0).testBit k = true))
  | [], s, k, h => .inl h
  | e :: es, s, k, h => by
    rw [List.foldl_cons] at h
    rcases fold_anc acc es _ k h with h1 | ⟨e', he', hb, hh⟩
    · by_cases hb : Region.binds .any e = true
      · rw [if_pos hb, Nat.testBit_or, testBit_or] at h1
        simp only [Bool.or_eq_true, decide_eq_true_eq] at h1
        rcases h1 with (h1 | h1) | h1
        · exact .inl h1
        · exact .inr ⟨e, List.mem_cons_self .., hb, .inl h1⟩
        · by_cases hl : e.on < acc.length
          · rw [if_pos hl, Nat.mul_one] at h1
            exact .inr ⟨e, List.mem_cons_self .., hb, .inr ⟨hl, h1⟩⟩
          · rw [if_neg hl, Nat.mul_zero, Nat.zero_testBit] at h1; cases h1
      · rw [if_neg hb] at h1; exact .inl h1
    · exact .inr ⟨e', List.mem_cons_of_mem _ he', hb, hh⟩
theorem ancsR_ok {ops : Array Oper} : ∀ (l : List Oper) (acc : List Nat), (∀ j o, l[j]? = some o → ops[acc.length + j]? = some o) → AncOk ops acc → AncOk ops (ancsR acc l)
  | [], acc, _, h => h
  | o :: r, acc, hl, h => by
    rw [ancsR]
    refine ancsR_ok r _ (fun j o' ho' => ?_) ⟨fun j hj k hk l hc hlj => ?_⟩
    · have := hl (j + 1) o' (by simpa using ho')
      rw [List.length_cons, show acc.length + 1 + j = acc.length + (j + 1) by omega]; exact this
    · have ho : ops[acc.length]? = some o := by have := hl 0 o (by simp); simpa using this
      rw [List.length_cons] at hj hk
      by_cases hjl : j = acc.length
      · subst hjl
        rw [show acc.length + 1 - 1 - acc.length = 0 by omega, List.getD_cons_zero] at hk
        unfold ancOf at hk
        rcases fold_anc acc _ _ k hk with h1 | ⟨e, he, hb, hh⟩
        · rw [Nat.zero_testBit] at h1; cases h1
        · have hle := hc acc.length o ho hlj e (by simpa using he) hb
          rcases hh with rfl | ⟨h1, h2⟩
          · exact hle
          · exact h.ok e.on h1 k h2 l hc hle
      · rw [show acc.length + 1 - 1 - j = (acc.length - 1 - j) + 1 by omega, List.getD_cons_succ] at hk
        exact h.ok j (by omega) k hk l hc hlj
theorem ClosedL.waitsM {ops : Array Oper} {l : Array Bool} (h : ClosedL ops l) {j k : Nat} (e : waitsM ops j k = true) (hj : l.getD j false = true) : l.getD k false = true := by
  unfold Go.Sx.waitsM ancs at e
  have A := ancsR_ok (ops := ops) ops.toList [] (fun j o ho => by simpa using ho) ⟨fun j hj => by simp at hj⟩
  generalize ancsR [] ops.toList = R at e A
  by_cases hl : j < R.length
  · refine A.ok j hl k ?_ l h hj
    rw [← e]
    congr 1
    rw [List.getD_eq_getElem?_getD, List.getD_eq_getElem?_getD, List.getElem?_reverse (by omega)]
  · rw [List.getD_eq_getElem?_getD, List.getElem?_eq_none (by simp; omega)] at e
    simp at e

structure KOf (ops : Array Oper) (C : Ctx) (ρ : Env) (h : H) (used : List (Nat × Nat)) (hst : List Nat) (l : Array Bool) (W : World) : Prop where
  old : ∀ b, b < C.w0.heap.size → b ∉ C.own → W.heap[b]? = C.w0.heap[b]?
  blk : ∀ u ∈ used, (∀ j, l.getD j false = true → j ∉ hst → waitsM ops j u.2 = false) → KW C ρ h u.1 W

section
variable {Φ : Phi} {C : Ctx} {ρ : Env} {h : H} {w : World} {P : Program} {cfg : Cfg}

theorem allT_mem {f : Nat → Tree} {is : List Int} {ls : List (List Int)} : ∀ {l : List Nat}, (allT f l).den Φ is ls → ∀ i ∈ l, (f i).den Φ is ls
  | [], h, i, hi => by cases hi
  | [j], h, i, hi => by
    rcases List.mem_cons.1 hi with rfl | hi
    · exact h
    · cases hi
  | j :: j' :: r, h, i, hi => by
    simp only [allT, Tree.den] at h
    rcases List.mem_cons.1 hi with rfl | hi
    · exact h.1
    · exact allT_mem h.2 i hi

theorem opM_load {ro : List (Addr × Value)} (hro : RoOk C ro) {sl : Slots} {a : Act} (r : RepS ρ sl a) (o : Oper) {n : Nat} (hn : loadBlk o sl = some n) :
    MSpec Φ C (opM P ro (evalO sl) o) ρ h w fun sv ρ' h' w' => w' = w ∧ h'.hp = h.hp ∧ n < ρ.bs.length ∧ ∃ u, SvIs ρ' sv u ∧
      ∀ W : World, KW C ρ h n W → (execOp a.eval o).run P W = .ok (.value u) W := by
  obtain ⟨dst, op, type, pos, after, guard⟩ := o
  unfold loadBlk at hn
  simp only at hn
  split at hn
  · rename_i t x
    split at hn
    · rename_i m oo ex
      cases hn
      simp only [opM]
      unfold with1
      rw [ex]
      simp only
      have hx := evalO_is r ex
      obtain ⟨hm, ho, hv⟩ := hx.ptr
      refine (ldVar_spec2 (P := P) hro (t := t) hx).mono ?_
      rintro sv ρ' h' w' l ⟨e, hp, u, hu, hr⟩
      refine ⟨e, hp, hm, u, hu, fun W hW => ?_⟩
      have := hr W ⟨hW.old, fun n' o' e => by cases e; exact hW⟩
      simp [execOp, this]
    · cases hn
  · cases hn

theorem KOf.self {ops : Array Oper} (r : RepH C ρ h w) (used : List (Nat × Nat)) (hst : List Nat) (l : Array Bool) : KOf ops C ρ h used hst l w := ⟨fun b hb hno => r.frame.old b hb hno, fun u _ _ => KW.self r u.1⟩
theorem KOf.less1 {ops : Array Oper} {used more : List (Nat × Nat)} {hst : List Nat} {i : Nat} {l : Array Bool} {W : World} (hK : KOf ops C ρ h (more ++ used) (i :: hst) l W) : KOf ops C ρ h used hst l W :=
  ⟨hK.old, fun u hu hc => hK.blk u (List.mem_append_right _ hu) fun j hj hjn => hc j hj fun hm => hjn (List.mem_cons_of_mem _ hm)⟩
theorem KOf.less2 {ops : Array Oper} {used more : List (Nat × Nat)} {hst : List Nat} {i : Nat} {l : Array Bool} {W : World} (hK : KOf ops C ρ h (more ++ used) (i :: hst) (l.setIfInBounds i true) W) : KOf ops C ρ h used hst l W :=
  ⟨hK.old, fun u hu hc => hK.blk u (List.mem_append_right _ hu) fun j hj hjn => by
    have hji : j ≠ i := fun e => hjn (by rw [e]; exact List.mem_cons_self ..)
    refine hc j ?_ fun hm => hjn (List.mem_cons_of_mem _ hm)
    simpa [Array.getElem?_setIfInBounds_ne (Ne.symm hji)] using hj⟩
theorem sameBlk_eq {h h' : H} {n : Nat} (hs : sameBlk h h' n = true) : h'.blk n = h.blk n := by
  unfold sameBlk at hs
  split at hs
  · rename_i b b' eb eb'
    rw [eb, eb', blkEq_eq hs]
  · cases hs

theorem drawGo_sound {ex : CodeF} (hex : CodeOk P C ex) (hcfg : cfg.Ok P) (hro : RoOk C cfg.ro) {ops : Array Oper} (hsel : Region.noSelect ops = true) {Q : Act → World → Prop} :
    ∀ (f : Nat) {ρ : Env} {listed : Array Bool} {m : Nat} {used : List (Nat × Nat)} {hst : List Nat} {sl : Slots} {h : H} {a : Act} {w : World} {k : Slots → H → Tree},
    RepS ρ sl a → RepH C ρ h w → ClosedL ops listed → Agree ops m listed → (drawGo P cfg ex ops f m used hst sl h k).den Φ ρ.is ρ.ls →
    (∀ sl' h' ρ' a' w', ρ.le ρ' → RepS ρ' sl' a' → RepH C ρ' h' w' → (k sl' h').den Φ ρ'.is ρ'.ls → Q a' w') → wpAnyK P ops (KOf ops C ρ h used hst) Q f listed a w
  | 0, ρ, listed, m, used, hst, sl, h, a, w, k, rs, r, hcl, hag, hd, hk => by
    unfold drawGo at hd
    split at hd
    · rename_i he
      exact ⟨KOf.self r used hst listed, (readyL_nil hag).1 he, hk _ _ _ _ _ (Env.le_refl ρ) rs r hd⟩
    · exact hd.elim
  | f + 1, ρ, listed, m, used, hst, sl, h, a, w, k, rs, r, hcl, hag, hd, hk => by
    unfold drawGo at hd
    split at hd
    · rename_i x ei
      have hxm := List.mem_of_find?_eq_some ei
      have hxc := List.find?_some ei
      obtain ⟨i, o, oi⟩ := x
      have ho : ops[i]? = some o := ((infos_mem _).1 hxm).1
      simp only [candM, Bool.and_eq_true, Bool.or_eq_true] at hxc
      have him : i ∈ Region.ready .any ops listed := (readyM_iff hag hxm).1 hxc.1
      have hic : (pureOp o = true ∨ (loadBlk o sl).isSome = true) ∧ Region.free .any ops listed i = true := ⟨hxc.2.1, freeM_ok hag hxm hxc.2.2⟩
      have hag' := hag.set (Array.getElem?_eq_some_iff.1 ho).1
      simp only at hd
      · obtain ⟨b, ρ1, h1, w1, l1, r1, d1, e1, hp1, hb⟩ := guardM_spec (Φ := Φ) (C := C) (ops := ops) rs o r _ hd
        subst e1
        have rs1 := rs.mono l1
        cases b with
        | true =>
          simp only [if_true] at d1
          obtain ⟨_, ρ1c, h1c, w1c, l1c, r1c, d1, e1c, hp1c⟩ := concO_spec (Φ := Φ) (C := C) rs1 r1 _ d1
          subst e1c
          have rs1 := rs1.mono l1c
          have r1 := r1c
          have hp1 := hp1c.trans hp1
          have l1 := Env.le_trans l1 l1c
          obtain ⟨_, ρ1', h1', w1', l1', r1', d1, e1', hKW⟩ := prepO_spec (Φ := Φ) (C := C) (w := w1c) (sl := sl) (o := o) r1 _ d1
          subst e1'
          have rs1 := rs1.mono l1'
          have hKW1 : ∀ m W, KW C ρ1' h1' m W → KW C ρ h m W := fun m W hW => ((hKW m W).1 hW).back r l1 (blk_of_hp hp1 m)
          have hKW2 : ∀ m W, KW C ρ h m W → KW C ρ1' h1' m W := fun m W hW => (hKW m W).2 (hW.mono r l1 (blk_of_hp hp1 m))
          have l1 := Env.le_trans l1 l1'
          cases hpo : pureOp o with
          | true =>
            obtain ⟨sv, ρ2, h2, w2, l2, r2, d2, e2, hp2, v, hv, hrun⟩ := opM_specA (P := P) (ro := cfg.ro) rs1 o hpo r1' _ d1
            subst e2
            simp only [hpo, if_true] at d2
            have l12 := Env.le_trans l1 l2
            have hrec := drawGo_sound hex hcfg hro hsel f (putS_rep (rs1.mono l2) (d := o.dst) hv) r2 (hcl.set him) hag' d2
              (fun sl' h' ρ' a' w' l' => hk sl' h' ρ' a' w' (Env.le_trans l12 l'))
            have hrec' : wpAnyK P ops (KOf ops C ρ h ([] ++ used) (i :: hst)) Q f (listed.setIfInBounds i true) (a.put o.dst v) w2 :=
              wpAnyK_mono f _ _ _ (fun l W _ hK => ⟨hK.old, fun u hu hc => hKW1 u.1 W ((hK.blk u hu hc).back r1' l2 (blk_of_hp hp2 u.1))⟩) hrec
            exact wpAnyK_first (Ki := fun _ => True) ho (Region.noSelect_spec hsel) (fun _ _ _ _ _ => trivial) (fun _ _ => KOf.less1) (fun _ _ => KOf.less2) f listed a w2 (Region.free_spec ho hic.2) hcl him (.inl ⟨hb, fun W _ => hrun W⟩) trivial hrec'
          | false =>
            have hl : ∃ n, loadBlk o sl = some n := by
              rcases hic.1 with hh | hh
              · rw [hpo] at hh; cases hh
              · exact Option.isSome_iff_exists.1 hh
            obtain ⟨n, hn⟩ := hl
            obtain ⟨sv, ρ2, h2, w2, l2, r2, d2, e2, hp2, hnb, v, hv, hrun⟩ := opM_load (P := P) hro rs1 o hn r1' _ d1
            subst e2
            simp only [hpo, hn, Option.toList_some, Bool.false_eq_true, if_false, List.map_cons, List.map_nil] at d2
            have l12 := Env.le_trans l1 l2
            have hrec := drawGo_sound hex hcfg hro hsel f (putS_rep (rs1.mono l2) (d := o.dst) hv) r2 (hcl.set him) hag' d2
              (fun sl' h' ρ' a' w' l' => hk sl' h' ρ' a' w' (Env.le_trans l12 l'))
            have hrec' : wpAnyK P ops (KOf ops C ρ h ([(n, i)] ++ used) (i :: hst)) Q f (listed.setIfInBounds i true) (a.put o.dst v) w2 :=
              wpAnyK_mono f _ _ _ (fun l W _ hK => ⟨hK.old, fun u hu hc => hKW1 u.1 W ((hK.blk u hu hc).back r1' l2 (blk_of_hp hp2 u.1))⟩) hrec
            refine wpAnyK_first (Ki := fun W => KW C ρ h n W) ho (Region.noSelect_spec hsel) (fun l W hcl' hun hK => ?_) (fun _ _ => KOf.less1) (fun _ _ => KOf.less2) f listed a w2 (Region.free_spec ho hic.2) hcl him
              (.inl ⟨hb, fun W hW => hrun W (hKW2 n W hW)⟩) (KW.self r n) hrec'
            refine hK.blk (n, i) (List.mem_append_left _ (List.mem_singleton.2 rfl)) fun j hj hjn => ?_
            have hji : j ≠ i := fun e => hjn (by rw [e]; exact List.mem_cons_self ..)
            have hj' : l.getD j false = true := by simpa [Array.getElem?_setIfInBounds_ne (Ne.symm hji)] using hj
            cases hw : waitsM ops j i with
            | false => rfl
            | true =>
              have := hcl'.waitsM hw hj'
              rw [hun] at this
              cases this
        | false =>
          simp only [Bool.false_eq_true, if_false] at d1
          have hrec := drawGo_sound hex hcfg hro hsel f (putS_rep rs1 (d := o.dst) (v := undef) ⟨rfl, rfl⟩) r1 (hcl.set him) hag' d1
            (fun sl' h' ρ' a' w' l' => hk sl' h' ρ' a' w' (Env.le_trans l1 l'))
          have hrec' : wpAnyK P ops (KOf ops C ρ h ([] ++ used) (i :: hst)) Q f (listed.setIfInBounds i true) (a.put o.dst undef) w1 :=
            wpAnyK_mono f _ _ _ (fun l W _ hK => ⟨hK.old, fun u hu hc => (hK.blk u hu hc).back r l1 (blk_of_hp hp1 u.1)⟩) hrec
          exact wpAnyK_first (Ki := fun _ => True) ho (Region.noSelect_spec hsel) (fun _ _ _ _ _ => trivial) (fun _ _ => KOf.less1) (fun _ _ => KOf.less2) f listed a w1 (Region.free_spec ho hic.2) hcl him (.inr ⟨hb, rfl⟩) trivial hrec'
    · split at hd
      · rename_i he
        have hnil : Region.ready .any ops listed = [] := (readyL_nil hag).1 he
        refine ⟨KOf.self r used hst listed, fun _ => hk _ _ _ _ _ (Env.le_refl ρ) rs r hd, fun i hi => ?_⟩
        rw [hnil] at hi; cases hi
      · rename_i he
        refine ⟨KOf.self r used hst listed, fun h0 => absurd ((readyL_nil hag).2 h0) he, fun i hi => ?_⟩
        have hdi := allT_mem hd i ((readyL_iff hag i).2 hi)
        unfold wpOp
        split at hdi
        · rename_i o ho
          rw [ho]
          simp only
          have hag' := hag.set (Array.getElem?_eq_some_iff.1 ho).1
          obtain ⟨b, ρ1, h1, w1, l1, r1, d1, e1, hp1, hb⟩ := guardM_spec (Φ := Φ) (C := C) (ops := ops) rs o r _ hdi
          subst e1
          have rs1 := rs.mono l1
          rw [hb]
          cases b with
          | true =>
            simp only [if_true] at d1 ⊢
            left
            refine stepO_sound hex hcfg hro rs1 r1 d1 ?_
            intro sv ρ2 h2 v w2 l2 r2 hv d2
            have l12 := Env.le_trans l1 l2
            split at d2
            · rename_i hsame
              simp only [Bool.and_eq_true, Bool.not_eq_true'] at hsame
              have hrec := drawGo_sound hex hcfg hro hsel f (putS_rep (rs1.mono l2) (d := o.dst) hv) r2 (hcl.set hi) hag' d2
                (fun sl' h' ρ' a' w' l' => hk sl' h' ρ' a' w' (Env.le_trans l12 l'))
              refine wpAnyK_mono f _ _ _ (fun l W hl hK => ⟨hK.old, fun u hu hc => ?_⟩) hrec
              have hil : l.getD i false = true := by
                refine hl i ?_
                have h0 := (mem_ready.1 hi).1
                rcases Nat.lt_or_ge i listed.size with h' | h'
                · simp [h']
                · simp [Array.getElem?_eq_none h'] at h0
              have hin : i ∉ hst := by
                have := hsame.2
                intro hm
                rw [List.contains_eq_mem, decide_eq_false_iff_not] at this
                exact this hm
              have hwf := hc i hil hin
              have hu' : u ∈ used.filter fun u => !waitsM ops i u.2 := List.mem_filter.2 ⟨hu, by simp [hwf]⟩
              exact (hK.blk u hu' hc).back r l12 ((sameBlk_eq (List.all_eq_true.1 hsame.1 u hu')).trans (blk_of_hp hp1 u.1))
            · exact d2.elim
          | false =>
            simp only [Bool.false_eq_true, if_false] at d1 ⊢
            have hrec := drawGo_sound hex hcfg hro hsel f (putS_rep rs1 (d := o.dst) (v := undef) ⟨rfl, rfl⟩) r1 (hcl.set hi) hag' d1
              (fun sl' h' ρ' a' w' l' => hk sl' h' ρ' a' w' (Env.le_trans l1 l'))
            exact wpAnyK_mono f _ _ _ (fun l W _ hK => ⟨hK.old, fun u hu hc => (hK.blk u hu hc).back r l1 (blk_of_hp hp1 u.1)⟩) hrec
        · exact hdi.elim

theorem RepH.drew (r : RepH C ρ h w) : RepH C ρ h { w with drawn := w.drawn + 1 } :=
  ⟨r.ni, r.nl, r.nb, fun σ => let f := r.facts σ; ⟨fun e he => (f.heap e he).keep rfl, f.nodup, f.rng, f.defs, f.lrng⟩, ⟨r.frame.size, r.frame.old, r.frame.os, r.frame.output⟩⟩

theorem drawRegion_sound {ex : CodeF} (hex : CodeOk P C ex) (hcfg : cfg.Ok P) (hro : RoOk C cfg.ro) (hmix : P.follows .mixedOrders = true) {id : Nat} {ops : Array Oper} {sl : Slots} {a : Act} {k : Slots → H → Tree} {Q : Exit → Act → World → Prop}
    (rs : RepS ρ sl a) (r : RepH C ρ h w) (hd : (drawRegion P cfg ex ops sl h k).den Φ ρ.is ρ.ls)
    (hk : ∀ sl' h' ρ' a' w', ρ.le ρ' → RepS ρ' sl' a' → RepH C ρ' h' w' → (k sl' h').den Φ ρ'.is ρ'.ls → Q .normal a' w') : (Code.region id ops true).wp P Q a w := by
  unfold drawRegion at hd
  split at hd
  · rename_i hsel
    exact wp_region_any hmix (wpAnyK_any (fun _ _ hq => hq) _ _ _ _ (drawGo_sound hex hcfg hro hsel _ rs r.drew (ClosedL.start _) (Agree.start ops) hd hk))
  · exact hd.elim
end
end Go.Sx
/- Loops with an invariant. -/
set_option linter.unusedVariables false
namespace Go.Sx

/-- What a loop carries: numbers in slots, truth values in slots, numbers in cells, contents of blocks, slices that grow. A block is named by a slot and the cells that lead on. -/
structure LoopAnn where
  f : FuncId
  reg : Nat
  drop : List Nat := []                                -- slots to be forgotten at the loop's head
  ints : List (Nat × Int × Int) := []                  -- slot, least, greatest
  cells : List (Nat × List Nat × Nat × Int × Int) := [] -- slot, path, cell, least, greatest
  lists : List (Nat × List Nat × Option (Int × Int)) := []
  vecs : List (Nat × Option (Int × Int)) := []          -- slot with a slice whose block may be another one in the next round
  cvecs : List (Nat × List Nat × Nat × Option (Int × Int)) := [] -- slot, path, cell with such a slice
  nils : List (Nat × List CK × TypeId) := []            -- slots with slices, brought into the form that may be nil
  cnils : List (Nat × List Nat × Nat × List CK × TypeId) := [] -- cells with such slices
  wide : List Nat := []                                 -- slots whose slices' elements have more than one cell
  maps : List (Nat × IntKind × CK) := []                -- slots with maps, told by lists from here on
  pmaps : List (Nat × IntKind × Nat × Nat) := []        -- the same of maps whose keys are pairs of numbers, below these
  cslcs : List (Nat × List Nat × Nat) := []             -- cells with slices that may begin anywhere in their block: slot, path, cell
  join : Option Nat := none                             -- the exit behind which the code goes on once, whichever way the loop ended

def firstReg : Code → Option Nat
  | .region id _ _ => some id
  | .seq a b => (match firstReg a with | some i => some i | none => firstReg b)
  | .cond _ a b => (match firstReg a with | some i => some i | none => firstReg b)
  | .block _ b => firstReg b
  | .loop b => firstReg b
  | .scope b => firstReg b
  | _ => none
def dstsOf (ops : Array Oper) : List Nat := ops.toList.filterMap (·.dst)
def assigned : Code → List Nat
  | .region _ ops _ => dstsOf ops
  | .seq a b => assigned a ++ assigned b
  | .cond _ a b => assigned a ++ assigned b
  | .block _ b => assigned b
  | .loop b => assigned b
  | .scope b => assigned b
  | _ => []

def ptrName : SV → Option Nat
  | .ptr n _ => some n
  | .slc n _ _ _ => some n
  | .vec n _ _ => some n
  | .mapv n => some n
  | _ => none
def followS (h : H) : Nat → List Nat → Option Nat
  | n, [] => some n
  | n, j :: js => match h.blk n with
    | some (.cells xs _ _) => (match (xs[j]?).bind ptrName with
      | some m => followS h m js
      | none => none)
    | _ => none
def pathName (sl : Slots) (h : H) (s : Nat) (p : List Nat) : Option Nat := (((sl[s]?).join).bind ptrName).bind fun n => followS h n p

/-- The head's form: slots, blocks, and where the carried things stand. -/
structure Head where
  sl : Slots
  hp : List (Nat × Blk)
  xs : List At          -- the carried numbers now
  ys : List Nat         -- the carried lists now
  zs : List Nat         -- the carried blocks now
  rng : List (Nat × Int × Int)
  lrng : List (Nat × Int × Int)
deriving Inhabited

def setBlkL (hp : List (Nat × Blk)) (n : Nat) (b : Blk) : List (Nat × Blk) := hp.map fun e => if e.1 == n then (n, b) else e
def Head.int (hd : Head) (ni s : Nat) (lo hi : Int) : Head :=
  match (hd.sl[s]?).join with
  | some (.i k a) => { hd with sl := hd.sl.set s (some (.i k (.v (ni + hd.xs.length)))), xs := hd.xs ++ [a], rng := (ni + hd.xs.length, lo, hi) :: hd.rng }
  | some (.b a) => { hd with sl := hd.sl.set s (some (.b (.v (ni + hd.xs.length)))), xs := hd.xs ++ [a], rng := (ni + hd.xs.length, lo, hi) :: hd.rng }
  | _ => hd
def Head.cell (hd : Head) (ni n j : Nat) (lo hi : Int) : Head :=
  match assoc hd.hp n with
  | some (.cells xs sz el) => (match xs[j]? with
    | some (.i k a) => { hd with hp := setBlkL hd.hp n (.cells (xs.set j (.i k (.v (ni + hd.xs.length)))) sz el), xs := hd.xs ++ [a], rng := (ni + hd.xs.length, lo, hi) :: hd.rng }
    | some (.b a) => { hd with hp := setBlkL hd.hp n (.cells (xs.set j (.b (.v (ni + hd.xs.length)))) sz el), xs := hd.xs ++ [a], rng := (ni + hd.xs.length, lo, hi) :: hd.rng }
    | _ => hd)
  | _ => hd
def Head.list (hd : Head) (nl n : Nat) (r : Option (Int × Int)) : Head :=
  match assoc hd.hp n with
  | some (.arr ks l len sz el) => { hd with hp := setBlkL hd.hp n (.arr ks (nl + hd.ys.length) len sz el), ys := hd.ys ++ [l], lrng := (match r with | some r => (nl + hd.ys.length, r) :: hd.lrng | none => hd.lrng) }
  | some (.zmap k b l K) => { hd with hp := setBlkL hd.hp n (.zmap k b (nl + hd.ys.length) K), ys := hd.ys ++ [l], lrng := (match r with | some r => (nl + hd.ys.length, r) :: hd.lrng | none => hd.lrng) }
  | some (.pmap k l A B) => { hd with hp := setBlkL hd.hp n (.pmap k (nl + hd.ys.length) A B), ys := hd.ys ++ [l], lrng := (match r with | some r => (nl + hd.ys.length, r) :: hd.lrng | none => hd.lrng) }
  | _ => hd
def Head.vec (hd : Head) (ni nl nb s : Nat) (r : Option (Int × Int)) (wide : Bool) : Head :=
  match (hd.sl[s]?).join with
  | some (.vec n len cap) => (match assoc hd.hp n with
    | some (.arr ks l bl sz el) =>
      let i := ni + hd.xs.length
      let two := !wide && (sameAt bl len && sameAt sz cap)
      let bl' := if two then At.v i else At.v (i + 2)
      let sz' := if two then At.v (i + 1) else At.v (i + 3)
      { hd with
        sl := hd.sl.set s (some (.vec (nb + hd.zs.length) (.v i) (.v (i + 1)))),
        hp := (nb + hd.zs.length, .arr ks (nl + hd.ys.length) bl' sz' el) :: hd.hp.filter (fun e => !(e.1 == n)),
        xs := hd.xs ++ (if two then [len, cap] else [len, cap, bl, sz]), ys := hd.ys ++ [l], zs := hd.zs ++ [n],
        rng := (i, 0, 1000000) :: (i + 1, 0, 9223372036854775807) :: (if two then [] else [(i + 2, 0, 1000000), (i + 3, 0, 37778931862957161705472)]) ++ hd.rng, lrng := (match r with | some r => (nl + hd.ys.length, r) :: hd.lrng | none => hd.lrng) }
    | _ => hd)
  | _ => hd
def Head.cvec (hd : Head) (ni nl nb m j : Nat) (r : Option (Int × Int)) : Head :=
  match assoc hd.hp m with
  | some (.cells cs csz cel) =>
    (match cs[j]? with
    | some (.vec n len cap) => (match assoc hd.hp n with
      | some (.arr ks l bl sz el) =>
        let i := ni + hd.xs.length
        let two := sameAt bl len && sameAt sz cap
        let bl' := if two then At.v i else At.v (i + 2)
        let sz' := if two then At.v (i + 1) else At.v (i + 3)
        { hd with
          hp := (nb + hd.zs.length, .arr ks (nl + hd.ys.length) bl' sz' el) :: (setBlkL hd.hp m (.cells (cs.set j (.vec (nb + hd.zs.length) (.v i) (.v (i + 1)))) csz cel)).filter (fun e => !(e.1 == n)),
          xs := hd.xs ++ (if two then [len, cap] else [len, cap, bl, sz]), ys := hd.ys ++ [l], zs := hd.zs ++ [n],
          rng := (i, 0, 1000000) :: (i + 1, 0, 9223372036854775807) :: (if two then [] else [(i + 2, 0, 1000000), (i + 3, 0, 37778931862957161705472)]) ++ hd.rng, lrng := (match r with | some r => (nl + hd.ys.length, r) :: hd.lrng | none => hd.lrng) }
      | _ => hd)
    | _ => hd)
  | _ => hd
def Head.cslc (hd : Head) (ni m j : Nat) : Head :=
  match assoc hd.hp m with
  | some (.cells cs csz cel) => (match cs[j]? with
    | some (.slc n o len cap) =>
      let i := ni + hd.xs.length
      { hd with hp := setBlkL hd.hp m (.cells (cs.set j (.slc n (.v i) (.v (i + 1)) (.v (i + 2)))) csz cel), xs := hd.xs ++ [o, len, cap],
                rng := (i, 0, 1000000) :: (i + 1, 0, 1000000) :: (i + 2, 0, 9223372036854775807) :: hd.rng }
    | _ => hd)
  | _ => hd
def normSlots : List (Nat × List CK × TypeId) → Slots → M Slots
  | [], sl => pure sl
  | q :: r, sl =>
    match (sl[q.1]?).join with
    | some y => do
      let y' ← asVec q.2.1 q.2.2 y
      normSlots r (sl.set q.1 (some y'))
    | none => normSlots r sl
def normCells (sl : Slots) : List (Nat × List Nat × Nat × List CK × TypeId) → M Unit
  | [] => pure ()
  | q :: r => fun h k =>
    match pathName sl h q.1 q.2.1 with
    | some n => likeCell q.2.2.2.1 q.2.2.2.2 n q.2.2.1 h fun _ h1 => normCells sl r h1 k
    | none => normCells sl r h k
def normLists (sl : Slots) : List (Nat × List Nat × Option (Int × Int)) → M Unit
  | [] => pure ()
  | q :: r => fun h k =>
    match pathName sl h q.1 q.2.1 with
    | some n => toArr n h fun _ h1 => normLists sl r h1 k
    | none => normLists sl r h k
def normMaps (sl : Slots) : List (Nat × IntKind × CK) → M Unit
  | [] => pure ()
  | q :: r => fun h k =>
    match pathName sl h q.1 [] with
    | some n => toZ q.2.1 q.2.2 n h fun _ h1 => normMaps sl r h1 k
    | none => normMaps sl r h k
def normPmaps (sl : Slots) : List (Nat × IntKind × Nat × Nat) → M Unit
  | [] => pure ()
  | q :: r => fun h k =>
    match pathName sl h q.1 [] with
    | some n => toP q.2.1 q.2.2.1 q.2.2.2 n h fun _ h1 => normPmaps sl r h1 k
    | none => normPmaps sl r h k
/-- A slice in a cell: nil, or with a place. -/
def slcCell (n j : Nat) : M Unit := fun h k =>
  match h.blk n with
  | some (.cells xs _ _) =>
    (match xs[j]? with
    | some y => asSlc y h fun y' h1 =>
      (match h1.blk n with
      | some (.cells xs1 sz el1) => (match xs1[j]? with
        | some y1 => if svEq y y1 then k () (h1.setBlk n (.cells (xs1.set j y') sz el1)) else .fail 213
        | none => .fail 214)
      | _ => .fail 215)
    | none => k () h)
  | _ => k () h
def normSlcs (sl : Slots) : List (Nat × List Nat × Nat) → M Unit
  | [] => pure ()
  | q :: r => fun h k =>
    match pathName sl h q.1 q.2.1 with
    | some n => slcCell n q.2.2 h fun _ h1 => normSlcs sl r h1 k
    | none => normSlcs sl r h k
/-- What a loop carries, brought into the form that its head has. -/
def LoopAnn.norm (an : LoopAnn) (sl : Slots) : M Slots := fun h k =>
  normSlots an.nils sl h fun sl1 h1 => normCells sl1 an.cnils h1 fun _ h2 => normMaps sl1 an.maps h2 fun _ h2 => normPmaps sl1 an.pmaps h2 fun _ h2 => normSlcs sl1 an.cslcs h2 fun _ h2 => normLists sl1 an.lists h2 fun _ h3 => k sl1 h3
def LoopAnn.head (an : LoopAnn) (body : Code) (sl : Slots) (h : H) : Head :=
  let gone := (an.drop ++ assigned body).filter fun s => !(an.ints.any (·.1 == s) || (an.vecs.any (·.1 == s) || an.nils.any (·.1 == s)))
  let m := gone.foldl (fun s i => s ||| 2 ^ i) 0
  let sl0 := sl.mapIdx fun i x => if Nat.testBit m i then none else x
  let h0 : Head := ⟨sl0, h.hp, [], [], [], [], []⟩
  let h1 := an.ints.foldl (fun hd q => hd.int h.ni q.1 q.2.1 q.2.2) h0
  let h2 := an.cells.foldl (fun hd q => match pathName sl h q.1 q.2.1 with
    | some n => hd.cell h.ni n q.2.2.1 q.2.2.2.1 q.2.2.2.2
    | none => hd) h1
  let h3 := an.lists.foldl (fun hd q => match pathName sl h q.1 q.2.1 with
    | some n => hd.list h.nl n q.2.2
    | none => hd) h2
  let h4 := an.vecs.foldl (fun hd q => hd.vec h.ni h.nl h.nb q.1 q.2 (an.wide.contains q.1)) h3
  let h5 := an.cvecs.foldl (fun hd q => match pathName sl h q.1 q.2.1 with
    | some m => hd.cvec h.ni h.nl h.nb m q.2.2.1 q.2.2.2
    | none => hd) h4
  an.cslcs.foldl (fun hd q => match pathName sl h q.1 q.2.1 with
    | some m => hd.cslc h.ni m q.2.2
    | none => hd) h5

/-- The state at the head, for a base state. -/
def Head.toH (hd : Head) (h : H) : H := { hp := hd.hp, ni := h.ni + hd.xs.length, nl := h.nl + hd.ys.length, nb := h.nb + hd.zs.length, rng := hd.rng ++ h.rng, defs := h.defs, lrng := hd.lrng ++ h.lrng }
def idSub (h : H) (xs : List At) (ys zs : List Nat) : Sub := ⟨(List.range h.ni).map .v ++ xs, List.range h.nl ++ ys, List.range h.nb ++ zs⟩

/-! Guesses of what is carried (nothing is owed of them): what stands in the base's environment is itself. -/
structure Gr where
  ni : Nat
  nl : Nat
  nb : Nat
  is : List (Nat × At)
  ls : List (Nat × Nat)
  bs : List (Nat × Nat)
def Gr.at (g : Gr) (t a : At) : Gr :=
  match t with
  | .v i => if Nat.blt i g.ni then g else if g.is.any (·.1 == i) then g else { g with is := (i, a) :: g.is }
  | _ => g
def Gr.b (g : Gr) (t a : Nat) : Gr := if Nat.blt t g.nb then g else if g.bs.any (·.1 == t) then g else { g with bs := (t, a) :: g.bs }
def Gr.l (g : Gr) (t a : Nat) : Gr := if Nat.blt t g.nl then g else if g.ls.any (·.1 == t) then g else { g with ls := (t, a) :: g.ls }
mutual
def Gr.sv (g : Gr) : SV → SV → Gr
  | .i _ t, .i _ a => g.at t a
  | .b t, .b a => g.at t a
  | .ptr n o, .ptr m a => (g.b n m).at o a
  | .slc n o l c, .slc m o' l' c' => (((g.b n m).at o o').at l l').at c c'
  | .iface _ x, .iface _ y => g.sv x y
  | .agg xs, .agg ys => g.svs xs ys
  | .tup xs, .tup ys => g.svs xs ys
  | .fn _ xs, .fn _ ys => g.svs xs ys
  | .vec n l c, .vec m l' c' => ((g.b n m).at l l').at c c'
  | .mapv n, .mapv m => g.b n m
  | _, _ => g
def Gr.svs (g : Gr) : List SV → List SV → Gr
  | x :: xs, y :: ys => Gr.svs (g.sv x y) xs ys
  | _, _ => g
end
def Gr.blk (g : Gr) : Blk → Blk → Gr
  | .cells xs sz _, .cells ys sz' _ => (g.svs xs ys).at sz sz'
  | .arr _ l n sz _, .arr _ l' n' sz' _ => ((g.l l l').at n n').at sz sz'
  | .ro _ l n, .ro _ l' n' => (g.l l l').at n n'
  | .map ks vs, .map ks' vs' => (g.svs ks ks').svs vs vs'
  | .zmap _ _ l _, .zmap _ _ l' _ => g.l l l'
  | .pmap _ l _ _, .pmap _ l' _ _ => g.l l l'
  | _, _ => g
def Gr.hp (g : Gr) (h : H) : List (Nat × Blk) → Gr
  | [] => g
  | (n, b) :: r =>
    match (if Nat.blt n g.nb then some n else assoc g.bs n).bind h.blk with
    | some b' => (g.blk b b').hp h r
    | none => g.hp h r
/-- Read the carried things off a state, by matching the head's form. -/
def Head.read (hd : Head) (h0 : H) (sl : Slots) (h : H) : Sub :=
  let g1 := (hd.sl.zip sl).foldl (fun g p => match p with
    | (some x, some y) => g.sv x y
    | _ => g) (⟨h0.ni, h0.nl, h0.nb, [], [], []⟩ : Gr)
  let g2 := (g1.hp h hd.hp).hp h hd.hp
  ⟨(List.range h0.ni).map .v ++ (List.range hd.xs.length).map (fun i => (assoc g2.is (h0.ni + i)).getD (.c 0)),
   List.range h0.nl ++ (List.range hd.ys.length).map (fun i => (assoc g2.ls (h0.nl + i)).getD 0),
   List.range h0.nb ++ (List.range hd.zs.length).map (fun i => (assoc g2.bs (h0.nb + i)).getD 0)⟩
def slotsFit (θ : Sub) : Slots → Slots → Bool
  | [], [] => true
  | none :: r, _ :: s => slotsFit θ r s
  | some x :: r, some y :: s => svEq (x.inst θ) y && slotsFit θ r s
  | _, _ => false
def Head.fits (hd : Head) (h0 : H) (sl : Slots) (h : H) (θ : Sub) : Bool :=
  slotsFit θ hd.sl sl && (hd.hp.all (fun e => decide (e.1 < h0.nb + hd.zs.length) && (e.2.inB (h0.ni + hd.xs.length) (h0.nl + hd.ys.length) (h0.nb + hd.zs.length) && (match h.blk (θ.bs.getD e.1 0) with | some b => blkEq (e.2.inst θ) b | none => false))) &&
    (nodupB ((hd.hp.filter (·.2.owned)).map fun e => θ.bs.getD e.1 0) && (θ.is.all (At.lt h.ni) && (θ.ls.all (fun l => decide (l < h.nl)) && (θ.bs.all (fun l => decide (l < h.nb)) &&
    (decide (θ.is.length = h0.ni + hd.xs.length) && (decide (θ.ls.length = h0.nl + hd.ys.length) && (decide (θ.bs.length = h0.nb + hd.zs.length) &&
    (decide (θ.is.take h0.ni = (List.range h0.ni).map .v) && (decide (θ.ls.take h0.nl = List.range h0.nl) && (decide (θ.bs.take h0.nb = List.range h0.nb) &&
    (hd.rng.all (fun r => decide (r.1 < h0.ni + hd.xs.length)) && (hd.lrng.all (fun r => decide (r.1 < h0.nl + hd.ys.length)) &&
    (hd.lrng.all (fun r => inside (h.lrange (θ.ls.getD r.1 0)) (some r.2)) && hd.sl.all (fun x => match x with | some x => SV.ok (h0.ni + hd.xs.length) (h0.nb + hd.zs.length) x | none => true)))))))))))))))

/-- A loop with an invariant. -/
def loopAnn1 (an : LoopAnn) (ex : CodeF) (fid : FuncId) (b : Code) (sl : Slots) (h : H) (k : Ex → Slots → H → Tree) : Tree :=
  let hd := an.head b sl h
  let θ := hd.read h sl h
  if hd.fits h sl h θ then
    rangeNeeds θ hd.rng h fun _ _ =>
    .loop (θ.is.drop h.ni) (θ.ls.drop h.nl) (ex fid b hd.sl (hd.toH h) fun e sl' h' => match e with
      | .norm => an.norm sl' h' fun sl' h' =>
        let θ' := hd.read h sl' h'
        if hd.fits h sl' h' θ' then rangeNeeds θ' hd.rng h' fun _ _ => .again (θ'.is.drop h.ni) (θ'.ls.drop h.nl) else .fail 201
      | e => .exit (k e sl' h'))
  else .fail 200
/-- A state with one number more, of which nothing is known. -/
def H.more (h : H) : H := { h with ni := h.ni + 1 }
/-- The same, what is behind one exit done once: a flag is carried behind the numbers. -/
def loopAnnJ (id : Nat) (an : LoopAnn) (ex : CodeF) (fid : FuncId) (b : Code) (sl : Slots) (h : H) (k : Ex → Slots → H → Tree) : Tree :=
  let hd := an.head b sl h
  let θ := hd.read h sl h
  if hd.fits h sl h θ then
    rangeNeeds θ hd.rng h fun _ _ =>
    .loop (θ.is.drop h.ni ++ [.c 0]) (θ.ls.drop h.nl) (.ite (.v (h.ni + hd.xs.length)) (.exit (k (.exit id) hd.sl (hd.toH h).more)) (ex fid b hd.sl (hd.toH h).more fun e sl' h' =>
      let go : Int → Tree := fun fl => an.norm sl' h' fun sl' h' =>
        let θ' := hd.read h sl' h'
        if hd.fits h sl' h' θ' then rangeNeeds θ' hd.rng h' fun _ _ => .again (θ'.is.drop h.ni ++ [.c fl]) (θ'.ls.drop h.nl) else .fail 203
      match e with
      | .norm => go 0
      | .exit id' => if id' = id then go 1 else .exit (k (.exit id') sl' h')
      | .ret => .exit (k .ret sl' h')))
  else .fail 202
def loopAnn (an : LoopAnn) (ex : CodeF) (fid : FuncId) (b : Code) (sl : Slots) (h : H) (k : Ex → Slots → H → Tree) : Tree :=
  an.norm sl h fun sl h => match an.join with
    | none => loopAnn1 an ex fid b sl h k
    | some id => loopAnnJ id an ex fid b sl h k
theorem slotsFit_ok {θ : Sub} : ∀ {r s : Slots}, slotsFit θ r s = true → r.length = s.length ∧ ∀ (i : Nat) (x : SV), r[i]? = some (some x) → ∃ y, s[i]? = some (some y) ∧ x.inst θ = y
  | [], [], _ => ⟨rfl, fun i x h => by simp at h⟩
  | [], _ :: _, h => by cases h
  | none :: r, [], h => by cases h
  | none :: r, y :: s, h => by
    have ih := slotsFit_ok (r := r) (s := s) (by simpa [slotsFit] using h)
    refine ⟨by simp [ih.1], fun i x hx => ?_⟩
    cases i with
    | zero => simp at hx
    | succ i => simpa using ih.2 i x (by simpa using hx)
  | some x :: r, [], h => by cases h
  | some x :: r, none :: s, h => by cases h
  | some x :: r, some y :: s, h => by
    simp only [slotsFit, Bool.and_eq_true] at h
    have ih := slotsFit_ok (r := r) (s := s) h.2
    refine ⟨by simp [ih.1], fun i z hz => ?_⟩
    cases i with
    | zero => simp only [List.getElem?_cons_zero, Option.some.injEq] at hz; subst hz; exact ⟨y, by simp, svEq_eq h.1⟩
    | succ i => simpa using ih.2 i z (by simpa using hz)

theorem wp_loop_idx {P : Program} {c : Code} {Q : Exit → Act → World → Prop} {a : Act} {w : World} {I : Nat → Act → World → Prop} {n : Nat} (h₀ : I n a w)
    (round : ∀ n a w, I n a w → c.wp P (Exit.then (fun a' w' => ∃ m, m < n ∧ I m a' w') Q) a w) : (Code.loop c).wp P Q a w := by
  intro b k cs
  have key : ∀ n a w, I n a w → ∃ e a' w', Q e a' w' ∧ Arrives P (lone (b.at a (.code c :: .inLoop c :: k)) cs w) b k cs e a' w' := by
    intro n
    induction n using Nat.strongRecOn with
    | _ n ih =>
      intro a w hI
      obtain ⟨e, a₁, w₁, hq, harr⟩ := round n a w hI b (.inLoop c :: k) cs
      cases e with
      | normal =>
        obtain ⟨m, hm, hI₁⟩ := hq
        obtain ⟨e₂, a₂, w₂, hq₂, harr₂⟩ := ih m hm a₁ w₁ hI₁
        exact ⟨e₂, a₂, w₂, hq₂, .of_steps (Steps.trans harr (.one step_inLoop)) harr₂⟩
      | exit id => exact ⟨_, a₁, w₁, hq, .pass (x := .inLoop c) rfl (fun _ _ => .inl (by simp)) harr⟩
      | goto l => exact ⟨_, a₁, w₁, hq, .pass (x := .inLoop c) rfl (fun _ _ => .inl (by simp)) harr⟩
      | ret => exact ⟨_, a₁, w₁, hq, .pass (x := .inLoop c) rfl (fun _ _ => .inl (by simp)) harr⟩
      | panic ch => exact ⟨_, a₁, w₁, hq, .pass (x := .inLoop c) rfl (fun _ _ => .inl (by simp)) harr⟩
      | outgrown => exact ⟨_, a₁, w₁, hq, .pass (x := .inLoop c) rfl (fun _ _ => .inl (by simp)) harr⟩
  obtain ⟨e, a', w', hq, harr⟩ := key n a w h₀
  exact ⟨e, a', w', hq, .of_steps (.one step_loop) harr⟩

section
variable {Φ : Phi} {C : Ctx} {P : Program}

/-- A state that fits the head's form stands at the head, in the base's environment and what is carried. -/
theorem Head.reabs {hd : Head} {h0 : H} {ρ0 ρ : Env} {w0 : World} (r0 : RepH C ρ0 h0 w0) (l : ρ0.le ρ) {sl : Slots} {h : H} {a : Act} {w : World} {θ : Sub} (rs : RepS ρ sl a) (r : RepH C ρ h w)
    (hfit : hd.fits h0 sl h θ = true) (hrg : ∀ q ∈ hd.rng, q.2.1 ≤ ((At.v q.1).inst θ).den ρ.is ∧ ((At.v q.1).inst θ).den ρ.is ≤ q.2.2) :
    let τ : Env := ⟨(θ.is.drop h0.ni).map (·.den ρ.is), (θ.ls.drop h0.nl).map (fun l => ρ.ls.getD l []), (θ.bs.drop h0.nb).map ρ.b⟩
    RepS (ρ0.app τ) hd.sl a ∧ RepH C (ρ0.app τ) (hd.toH h0) w := by
  intro τ
  simp only [Head.fits, Bool.and_eq_true, decide_eq_true_eq] at hfit
  obtain ⟨hsl, hblks, hnod, hθi, hθl, hθb, hli, hll, hlb, hti, htl, htb, hrb, hlrb, hlr, hslok⟩ := hfit
  have f := r.fact
  have henv : θ.env ρ = ρ0.app τ := by
    obtain ⟨σ, rfl⟩ := l
    unfold Sub.env Env.app
    simp only [Env.mk.injEq]
    refine ⟨?_, ?_, ?_⟩
    · conv => lhs; rw [← List.take_append_drop h0.ni θ.is, List.map_append, hti]
      rw [map_v_den h0.ni ρ0.is σ.is r0.ni]; rfl
    · conv => lhs; rw [← List.take_append_drop h0.nl θ.ls, List.map_append, htl]
      rw [show List.range h0.nl = List.range ρ0.ls.length by rw [r0.nl]]
      congr 1
      exact map_getD_range ρ0.ls σ.ls []
    · conv => lhs; rw [← List.take_append_drop h0.nb θ.bs, List.map_append, htb]
      rw [show List.range h0.nb = List.range ρ0.bs.length by rw [r0.nb]]
      congr 1
      exact map_getD_range ρ0.bs σ.bs (0, 0)
  have L1 : (θ.env ρ).is.length = h0.ni + hd.xs.length := by simp [Sub.env, hli]
  have L2 : (θ.env ρ).ls.length = h0.nl + hd.ys.length := by simp [Sub.env, hll]
  have L3 : (θ.env ρ).bs.length = h0.nb + hd.zs.length := by simp [Sub.env, hlb]
  rw [← henv]
  have hs := slotsFit_ok hsl
  constructor
  · refine ⟨by rw [rs.size, hs.1], rs.defers, fun i x hx => ?_⟩
    obtain ⟨y, hy, he⟩ := hs.2 i x hx
    obtain ⟨v, hv, hi⟩ := rs.slots i y hy
    have hxo : SV.ok θ.is.length θ.bs.length x = true := by
      have := List.all_eq_true.1 hslok (some x) (List.mem_of_getElem? hx)
      rw [hli, hlb]; exact this
    refine ⟨v, hv, by rw [L1, L3, ← hli, ← hlb]; exact hxo, ?_⟩
    rw [inst_den x hxo, he]; exact hi.2
  · have hall : ∀ e ∈ hd.hp, e.1 < θ.bs.length ∧ e.2.inB (h0.ni + hd.xs.length) (h0.nl + hd.ys.length) (h0.nb + hd.zs.length) = true ∧ h.blk (θ.bs.getD e.1 0) = some (e.2.inst θ) := fun e he => by
      have := List.all_eq_true.1 hblks e he
      simp only [Bool.and_eq_true, decide_eq_true_eq] at this
      refine ⟨by rw [hlb]; exact this.1, this.2.1, ?_⟩
      have h3 := this.2.2
      cases eb : h.blk (θ.bs.getD e.1 0) with
      | none => rw [eb] at h3; cases h3
      | some b => rw [eb] at h3; rw [blkEq_eq h3]
    have hall' : ∀ e ∈ hd.hp, e.1 < θ.bs.length ∧ e.2.inB θ.is.length θ.ls.length θ.bs.length = true := fun e he => by
      have := hall e he
      rw [hli, hll, hlb]; rw [hlb] at this; exact ⟨this.1, this.2.1⟩
    refine ⟨L1, L2, L3, Facts.of (fun e he => ?_) ?_ (fun q hq σ => ?_) (fun d hd' σ => ?_) (fun q hq σ x hx => ?_), r.frame⟩
    · have hb := f.heap _ (blk_mem (hall e he).2.2)
      refine BlkOk.inst (C := C) (hall' e he).1 (hall' e he).2 hb hb.mine (fun ho => ?_)
      have hh := hb.holds
      obtain ⟨n, b⟩ := e
      cases b <;> simp only [Blk.owned] at ho <;> try (cases ho; done)
      simp only [Blk.inst, Blk.holds] at hh
      exact ⟨hh.1, hh.2.1, fun _ _ _ hv => hv⟩
    · show (ownPhys (θ.env ρ) hd.hp).Nodup
      rw [← ownPhys_inst hall']
      refine phys_sub f.nodup (fun e he => ?_) ?_
      · obtain ⟨e0, he0, rfl⟩ := List.mem_map.1 he
        exact blk_mem (hall e0 he0).2.2
      · have := nodupB_ok hnod
        rw [List.filter_map, List.map_map]
        have e2 : (fun x : Nat × Blk => x.2.owned) ∘ (fun e : Nat × Blk => (θ.bs.getD e.1 0, e.2.inst θ)) = fun e => e.2.owned := by
          funext e; exact owned_inst θ e.2
        rw [e2]
        exact this
    · rcases List.mem_append.1 hq with hq | hq
      · have hw := of_decide_eq_true (List.all_eq_true.1 hrb q hq)
        rw [show ((θ.env ρ).app σ).is.getD q.1 0 = (θ.env ρ).is.getD q.1 0 from getD_app (by rw [L1]; exact hw)]
        have e2 : (θ.env ρ).is.getD q.1 0 = ((At.v q.1).inst θ).den ρ.is := inst_at (a := .v q.1) (by simp [At.lt, hli, hw])
        rw [e2]; exact hrg q hq
      · have := (r0.facts (τ.app σ)).rng q hq
        rw [← Env.app_assoc, ← henv] at this; exact this
    · have := (r0.facts (τ.app σ)).defs d hd'
      rw [← Env.app_assoc, ← henv] at this; exact this
    · rcases List.mem_append.1 hq with hq | hq
      · have hw := of_decide_eq_true (List.all_eq_true.1 hlrb q hq)
        rw [show ((θ.env ρ).app σ).ls.getD q.1 [] = (θ.env ρ).ls.getD q.1 [] from getD_app (by rw [L2]; exact hw)] at hx
        rw [inst_l (by rw [hll]; exact hw)] at hx
        exact inside_ok (List.all_eq_true.1 hlr q hq) (lrange_ok f _ x hx)
      · have := (r0.facts (τ.app σ)).lrng q hq
        rw [← Env.app_assoc, ← henv] at this
        exact this x hx

theorem fits_lt {hd : Head} {h0 h : H} {sl : Slots} {θ : Sub} {ρ : Env} (hfit : hd.fits h0 sl h θ = true) (hn : ρ.is.length = h.ni) : θ.is.all (At.lt ρ.is.length) = true := by
  simp only [Head.fits, Bool.and_eq_true, decide_eq_true_eq] at hfit
  rw [hn]; exact hfit.2.2.2.1

theorem normSlots_spec : ∀ (l : List (Nat × List CK × TypeId)) {sl : Slots} {a : Act} {ρ : Env} {h : H} {w : World}, RepS ρ sl a → MSpec Φ C (normSlots l sl) ρ h w fun sl' ρ' h' w' => w' = w ∧ RepS ρ' sl' a
  | [], sl, a, ρ, h, w, rs => by unfold normSlots; exact MSpec.ret ⟨rfl, rs⟩
  | q :: r, sl, a, ρ, h, w, rs => by
    unfold normSlots
    split
    · rename_i y ey
      have ey' : sl[q.1]? = some (some y) := by
        cases e : sl[q.1]? with
        | none => rw [e] at ey; cases ey
        | some z => rw [e] at ey; exact congrArg some ey
      obtain ⟨v, hv, hy⟩ := rs.slots q.1 y ey'
      refine (asVec_spec hy).bind ?_
      rintro y' ρ1 h1 w1 l1 ⟨rfl, hy'⟩
      refine normSlots_spec r ?_
      have rs1 := rs.mono l1
      refine ⟨by rw [rs1.size, List.length_set], rs1.defers, fun i x hx => ?_⟩
      rw [List.getElem?_set] at hx
      by_cases hi : q.1 = i
      · subst hi
        rw [if_pos rfl] at hx
        split at hx
        · obtain rfl : y' = x := by simpa using hx
          exact ⟨v, hv, hy'⟩
        · cases hx
      · rw [if_neg hi] at hx
        exact rs1.slots i x hx
    · exact normSlots_spec r rs
theorem normCells_spec {sl : Slots} : ∀ (l : List (Nat × List Nat × Nat × List CK × TypeId)) {ρ : Env} {h : H} {w : World}, MSpec Φ C (normCells sl l) ρ h w fun _ ρ' h' w' => w' = w
  | [], ρ, h, w => by unfold normCells; exact MSpec.ret rfl
  | q :: r, ρ, h, w => by
    intro rep k hk
    unfold normCells at hk
    split at hk
    · obtain ⟨_, ρ1, h1, w1, l1, r1, d1, e1⟩ := likeCell_spec (Φ := Φ) (C := C) (w := w) rep _ hk
      subst e1
      obtain ⟨a, ρ2, h2, w2, l2, r2, d2, e2⟩ := normCells_spec r r1 _ d1
      exact ⟨a, ρ2, h2, w2, Env.le_trans l1 l2, r2, d2, e2⟩
    · exact normCells_spec r rep _ hk
theorem normLists_spec {sl : Slots} : ∀ (l : List (Nat × List Nat × Option (Int × Int))) {ρ : Env} {h : H} {w : World}, MSpec Φ C (normLists sl l) ρ h w fun _ ρ' h' w' => w' = w
  | [], ρ, h, w => by unfold normLists; exact MSpec.ret rfl
  | q :: r, ρ, h, w => by
    intro rep k hk
    unfold normLists at hk
    split at hk
    · obtain ⟨_, ρ1, h1, w1, l1, r1, d1, e1, _⟩ := toArr_spec (Φ := Φ) (C := C) (w := w) rep _ hk
      subst e1
      obtain ⟨a, ρ2, h2, w2, l2, r2, d2, e2⟩ := normLists_spec r r1 _ d1
      exact ⟨a, ρ2, h2, w2, Env.le_trans l1 l2, r2, d2, e2⟩
    · exact normLists_spec r rep _ hk
theorem normMaps_spec {sl : Slots} : ∀ (l : List (Nat × IntKind × CK)) {ρ : Env} {h : H} {w : World}, MSpec Φ C (normMaps sl l) ρ h w fun _ ρ' h' w' => w' = w
  | [], ρ, h, w => by unfold normMaps; exact MSpec.ret rfl
  | q :: r, ρ, h, w => by
    intro rep k hk
    unfold normMaps at hk
    split at hk
    · obtain ⟨_, ρ1, h1, w1, l1, r1, d1, e1⟩ := toZ_spec (Φ := Φ) (C := C) (w := w) rep _ hk
      subst e1
      obtain ⟨a, ρ2, h2, w2, l2, r2, d2, e2⟩ := normMaps_spec r r1 _ d1
      exact ⟨a, ρ2, h2, w2, Env.le_trans l1 l2, r2, d2, e2⟩
    · exact normMaps_spec r rep _ hk
theorem normPmaps_spec {sl : Slots} : ∀ (l : List (Nat × IntKind × Nat × Nat)) {ρ : Env} {h : H} {w : World}, MSpec Φ C (normPmaps sl l) ρ h w fun _ ρ' h' w' => w' = w
  | [], ρ, h, w => by unfold normPmaps; exact MSpec.ret rfl
  | q :: r, ρ, h, w => by
    intro rep k hk
    unfold normPmaps at hk
    split at hk
    · obtain ⟨_, ρ1, h1, w1, l1, r1, d1, e1⟩ := toP_spec (Φ := Φ) (C := C) (w := w) rep _ hk
      subst e1
      obtain ⟨a, ρ2, h2, w2, l2, r2, d2, e2⟩ := normPmaps_spec r r1 _ d1
      exact ⟨a, ρ2, h2, w2, Env.le_trans l1 l2, r2, d2, e2⟩
    · exact normPmaps_spec r rep _ hk
theorem slcCell_spec {n j : Nat} {ρ : Env} {h : H} {w : World} : MSpec Φ C (slcCell n j) ρ h w fun _ ρ' h' w' => w' = w := by
  intro r k hk
  unfold slcCell at hk
  split at hk
  · rename_i xs sz0 el0 eb
    split at hk
    · rename_i y ey
      have hb := r.fact.heap _ (blk_mem eb)
      have hin := hb.inB
      simp only [Blk.inB, Bool.and_eq_true] at hin
      have hy := oks_get' hin.1 ey
      obtain ⟨y', ρ1, h1, w1, l1, r1, d1, e1, hp1, hy1⟩ := asSlc_spec (Φ := Φ) (C := C) (w := w) hy r _ hk
      subst e1
      split at d1
      · rename_i xs1 sz el1 eb1
        split at d1
        · rename_i y1 ey1
          split at d1
          · rename_i es
            obtain rfl := svEq_eq es
            have hb1 := r1.fact.heap _ (blk_mem eb1)
            have hin1 := hb1.inB
            simp only [Blk.inB, Bool.and_eq_true] at hin1
            have hden : SV.dens ρ1 (xs1.set j y') = SV.dens ρ1 xs1 := by
              rw [dens_set]
              have hg := dens_get (ρ := ρ1) ey1
              have : SV.den ρ1 y' = SV.den ρ1 y := by rw [hy1.2, (hy.mono l1).2]
              rw [this]
              apply List.ext_getElem?
              intro i
              rw [List.getElem?_set]
              by_cases hij : j = i
              · subst hij
                have hlt : j < (SV.dens ρ1 xs1).length := by
                  rcases Nat.lt_or_ge j (SV.dens ρ1 xs1).length with hh | hh
                  · exact hh
                  · rw [List.getElem?_eq_none hh] at hg; cases hg
                rw [if_pos rfl, if_pos hlt, hg]
              · rw [if_neg hij]
            refine ⟨(), ρ1, _, w1, l1, ?_, d1, rfl⟩
            refine r1.setBlk eb1 (by simp [Blk.phys]) rfl (fun _ _ => rfl) rfl rfl ?_ ?_
            · simp only [Blk.inB, Bool.and_eq_true]
              exact ⟨oks_set hin1.1 hy1.1, hin1.2⟩
            · have := hb1.holds
              simp only [Blk.holds, hden] at this ⊢
              exact this
          · exact d1.elim
        · exact d1.elim
      · exact d1.elim
    · exact ⟨(), ρ, h, w, Env.le_refl _, r, hk, rfl⟩
  · exact ⟨(), ρ, h, w, Env.le_refl _, r, hk, rfl⟩
theorem normSlcs_spec {sl : Slots} : ∀ (l : List (Nat × List Nat × Nat)) {ρ : Env} {h : H} {w : World}, MSpec Φ C (normSlcs sl l) ρ h w fun _ ρ' h' w' => w' = w
  | [], ρ, h, w => by unfold normSlcs; exact MSpec.ret rfl
  | q :: r, ρ, h, w => by
    intro rep k hk
    unfold normSlcs at hk
    split at hk
    · obtain ⟨_, ρ1, h1, w1, l1, r1, d1, e1⟩ := slcCell_spec (Φ := Φ) (C := C) (w := w) rep _ hk
      subst e1
      obtain ⟨a, ρ2, h2, w2, l2, r2, d2, e2⟩ := normSlcs_spec r r1 _ d1
      exact ⟨a, ρ2, h2, w2, Env.le_trans l1 l2, r2, d2, e2⟩
    · exact normSlcs_spec r rep _ hk
theorem norm_spec {an : LoopAnn} {sl : Slots} {a : Act} {ρ : Env} {h : H} {w : World} (rs : RepS ρ sl a) : MSpec Φ C (an.norm sl) ρ h w fun sl' ρ' h' w' => w' = w ∧ RepS ρ' sl' a := by
  intro rep k hk
  unfold LoopAnn.norm at hk
  obtain ⟨sl1, ρ1, h1, w1, l1, r1, d1, e1, rs1⟩ := normSlots_spec (Φ := Φ) (C := C) (w := w) an.nils rs rep _ hk
  subst e1
  obtain ⟨_, ρ2, h2, w2, l2, r2, d2, e2⟩ := normCells_spec (Φ := Φ) (C := C) (w := w1) an.cnils r1 _ d1
  subst e2
  obtain ⟨_, ρm, hm, wm, lm, rm, dm, em⟩ := normMaps_spec (Φ := Φ) (C := C) (w := w2) an.maps r2 _ d2
  subst em
  obtain ⟨_, ρp, hp, wp, lp, rp, dp, ep⟩ := normPmaps_spec (Φ := Φ) (C := C) (w := wm) an.pmaps rm _ dm
  subst ep
  obtain ⟨_, ρq, hq, wq, lq, rq, dq, eq⟩ := normSlcs_spec (Φ := Φ) (C := C) (w := wp) an.cslcs rp _ dp
  subst eq
  obtain ⟨_, ρ3, h3, w3, l3, r3, d3, e3⟩ := normLists_spec (Φ := Φ) (C := C) (w := wq) an.lists rq _ dq
  subst e3
  exact ⟨sl1, ρ3, h3, w3, Env.le_trans l1 (Env.le_trans l2 (Env.le_trans lm (Env.le_trans lp (Env.le_trans lq l3)))), r3, d3, rfl, ((((rs1.mono l2).mono lm).mono lp).mono lq).mono l3⟩
theorem loopAnn1_sound {an : LoopAnn} {ex : CodeF} (hex : CodeOk P C ex) {fid : FuncId} {b : Code} {sl : Slots} {h : H} {k : Ex → Slots → H → Tree} {Q : Exit → Act → World → Prop} {ρ : Env} {a : Act} {w : World}
    (rs : RepS ρ sl a) (r : RepH C ρ h w) (hdn : (loopAnn1 an ex fid b sl h k).den Φ ρ.is ρ.ls)
    (hk : ∀ e sl' h' ρ' a' w', ρ.le ρ' → RepS ρ' sl' a' → RepH C ρ' h' w' → (k e sl' h').den Φ ρ'.is ρ'.ls → Q e.to a' w') : (Code.loop b).wp P Q a w := by
  unfold loopAnn1 at hdn
  simp only at hdn
  split at hdn
  case isFalse => exact hdn.elim
  rename_i hfit
  generalize hH : an.head b sl h = hd at hdn hfit
  generalize hθ : hd.read h sl h = θ at hdn hfit
  obtain ⟨_, ρ1, h1, w1, l1, r1, d1, e1, hp1, hlr1, er1, hrg⟩ := rangeNeeds_spec (Φ := Φ) (C := C) (w := w) hd.rng (fits_lt hfit r.ni) r _ hdn
  subst e1
  subst er1
  simp only [Tree.den] at d1
  obtain ⟨I, μ, hI0, hround⟩ := d1
  have hli : (θ.is.drop h.ni).length = hd.xs.length := by simp only [Head.fits, Bool.and_eq_true, decide_eq_true_eq] at hfit; simp [hfit.2.2.2.2.2.2.1]
  have hll : (θ.ls.drop h.nl).length = hd.ys.length := by simp only [Head.fits, Bool.and_eq_true, decide_eq_true_eq] at hfit; simp [hfit.2.2.2.2.2.2.2.1]
  have start := Head.reabs r (Env.le_refl ρ1) rs r hfit hrg
  refine wp_loop_idx (I := fun n a w => ∃ τ : Env, τ.is.length = hd.xs.length ∧ τ.ls.length = hd.ys.length ∧ I τ.is τ.ls ∧ μ τ.is τ.ls = n ∧ RepS (ρ1.app τ) hd.sl a ∧ RepH C (ρ1.app τ) (hd.toH h) w)
    (n := μ ((θ.is.drop h.ni).map (·.den ρ1.is)) ((θ.ls.drop h.nl).map (fun l => ρ1.ls.getD l []))) ⟨_, by rw [List.length_map]; exact hli, by rw [List.length_map]; exact hll, hI0, rfl, start.1, start.2⟩ ?_
  rintro n a w ⟨τ, t1, t2, hI, hμ, rs', r'⟩
  have hb := hround τ.is τ.ls (by rw [t1, hli]) (by rw [t2, hll]) hI
  refine hex (Φ.push fun xs' ys' => I xs' ys' ∧ μ xs' ys' < μ τ.is τ.ls) fid b hd.sl (hd.toH h) _ _ (ρ1.app τ) a w rs' r' hb ?_
  intro e sl' h' ρ' a' w' l' rs2 r2 d2
  have l0' : ρ1.le ρ' := Env.le_trans (Env.le_app ρ1 τ) l'
  cases e with
  | norm =>
    simp only at d2
    obtain ⟨slN, ρN, hN, wN, lN, rN, dN, eN, rsN⟩ := norm_spec (Φ := Φ.push fun xs' ys' => I xs' ys' ∧ μ xs' ys' < μ τ.is τ.ls) (C := C) (w := w') (an := an) rs2 r2 _ d2
    have lN' := Env.le_trans l0' lN
    split at dN
    case isFalse => exact dN.elim
    rename_i hfit'
    generalize hθ' : hd.read h slN hN = θ' at dN hfit'
    obtain ⟨_, ρ3, h3, w3, l3, r3, d3, e3, hp3, hlr3, er3, hrg'⟩ := rangeNeeds_spec (Φ := Φ.push fun xs' ys' => I xs' ys' ∧ μ xs' ys' < μ τ.is τ.ls) (C := C) (w := wN) hd.rng (fits_lt hfit' rN.ni) rN _ dN
    rw [er3] at d3
    simp only [Tree.den, Phi.push, Phi.top] at d3
    have again := Head.reabs r lN' rsN rN hfit' hrg'
    have hli' : (θ'.is.drop h.ni).length = hd.xs.length := by simp only [Head.fits, Bool.and_eq_true, decide_eq_true_eq] at hfit'; simp [hfit'.2.2.2.2.2.2.1]
    have hll' : (θ'.ls.drop h.nl).length = hd.ys.length := by simp only [Head.fits, Bool.and_eq_true, decide_eq_true_eq] at hfit'; simp [hfit'.2.2.2.2.2.2.2.1]
    rw [← eN]
    exact ⟨_, by rw [← hμ]; exact d3.2, _, by rw [List.length_map]; exact hli', by rw [List.length_map]; exact hll', d3.1, rfl, again.1, again.2⟩
  | exit id => exact hk (.exit id) _ _ _ _ _ l0' rs2 r2 d2
  | ret => exact hk .ret _ _ _ _ _ l0' rs2 r2 d2
theorem RepH.more {ρ : Env} {h : H} {w : World} (r : RepH C ρ h w) (x : Int) : RepH C (ρ.app ⟨[x], [], []⟩) h.more w := by
  refine ⟨by simp [Env.app, r.ni, H.more], by simp [Env.app, r.nl, H.more], by simp [Env.app, r.nb, H.more], fun σ => ?_, r.frame⟩
  have f := r.facts ((⟨[x], [], []⟩ : Env).app σ)
  rw [← Env.app_assoc] at f
  exact ⟨f.heap, f.nodup, f.rng, f.defs, f.lrng⟩
theorem loopAnnJ_sound {id : Nat} {an : LoopAnn} {ex : CodeF} (hex : CodeOk P C ex) {fid : FuncId} {b : Code} {sl : Slots} {h : H} {k : Ex → Slots → H → Tree} {Q : Exit → Act → World → Prop} {ρ : Env} {a : Act} {w : World}
    (rs : RepS ρ sl a) (r : RepH C ρ h w) (hdn : (loopAnnJ id an ex fid b sl h k).den Φ ρ.is ρ.ls)
    (hk : ∀ e sl' h' ρ' a' w', ρ.le ρ' → RepS ρ' sl' a' → RepH C ρ' h' w' → (k e sl' h').den Φ ρ'.is ρ'.ls → Q e.to a' w') : (Code.loop b).wp P Q a w := by
  unfold loopAnnJ at hdn
  simp only at hdn
  split at hdn
  case isFalse => exact hdn.elim
  rename_i hfit
  generalize hH : an.head b sl h = hd at hdn hfit
  generalize hθ : hd.read h sl h = θ at hdn hfit
  obtain ⟨_, ρ1, h1, w1, l1, r1, d1, e1, hp1, hlr1, er1, hrg⟩ := rangeNeeds_spec (Φ := Φ) (C := C) (w := w) hd.rng (fits_lt hfit r.ni) r _ hdn
  subst e1
  subst er1
  simp only [Tree.den] at d1
  obtain ⟨I, μ, hI0, hround⟩ := d1
  have hli : (θ.is.drop h.ni).length = hd.xs.length := by simp only [Head.fits, Bool.and_eq_true, decide_eq_true_eq] at hfit; simp [hfit.2.2.2.2.2.2.1]
  have hll : (θ.ls.drop h.nl).length = hd.ys.length := by simp only [Head.fits, Bool.and_eq_true, decide_eq_true_eq] at hfit; simp [hfit.2.2.2.2.2.2.2.1]
  have start := Head.reabs r (Env.le_refl ρ1) rs r hfit hrg
  rw [List.map_append] at hI0
  have nrho : ρ1.is.length = h.ni := r.ni
  -- what the body's tree says, at a flag
  have body : ∀ (τ : Env) (fl : Int), τ.is.length = hd.xs.length → τ.ls.length = hd.ys.length → I (τ.is ++ [fl]) τ.ls →
      (fl ≠ 0 → (k (.exit id) hd.sl (hd.toH h).more).den Φ ((ρ1.app τ).app ⟨[fl], [], []⟩).is ((ρ1.app τ).app ⟨[fl], [], []⟩).ls) ∧
      (fl = 0 → (ex fid b hd.sl (hd.toH h).more fun e sl' h' =>
        let go : Int → Tree := fun fl => an.norm sl' h' fun sl' h' =>
          let θ' := hd.read h sl' h'
          if hd.fits h sl' h' θ' then rangeNeeds θ' hd.rng h' fun _ _ => .again (θ'.is.drop h.ni ++ [.c fl]) (θ'.ls.drop h.nl) else .fail 203
        match e with
        | .norm => go 0
        | .exit id' => if id' = id then go 1 else .exit (k (.exit id') sl' h')
        | .ret => .exit (k .ret sl' h')).den (Φ.push fun xs' ys' => I xs' ys' ∧ μ xs' ys' < μ (τ.is ++ [fl]) τ.ls) ((ρ1.app τ).app ⟨[fl], [], []⟩).is ((ρ1.app τ).app ⟨[fl], [], []⟩).ls) := by
    intro τ fl t1 t2 hI
    have hb := hround (τ.is ++ [fl]) τ.ls (by simp [t1, hli]) (by rw [t2, hll]) hI
    have e1 : ((ρ1.app τ).app ⟨[fl], [], []⟩).is = ρ1.is ++ (τ.is ++ [fl]) := by simp [Env.app]
    have e2 : ((ρ1.app τ).app ⟨[fl], [], []⟩).ls = ρ1.ls ++ τ.ls := by simp [Env.app]
    rw [e1, e2]
    have hv : (At.v (h.ni + hd.xs.length)).den (ρ1.is ++ (τ.is ++ [fl])) = fl := by
      rw [← nrho, ← t1, ← List.append_assoc, At.den_v]
      simp [List.getD]
    rw [hv] at hb
    exact hb
  refine wp_loop_idx (I := fun n a w => ∃ τ : Env, τ.is.length = hd.xs.length ∧ τ.ls.length = hd.ys.length ∧ I (τ.is ++ [0]) τ.ls ∧ μ (τ.is ++ [0]) τ.ls = n ∧ RepS (ρ1.app τ) hd.sl a ∧ RepH C (ρ1.app τ) (hd.toH h) w)
    (n := μ ((θ.is.drop h.ni).map (·.den ρ1.is) ++ [0]) ((θ.ls.drop h.nl).map (fun l => ρ1.ls.getD l []))) ⟨_, by rw [List.length_map]; exact hli, by rw [List.length_map]; exact hll, hI0, rfl, start.1, start.2⟩ ?_
  rintro n a w ⟨τ, t1, t2, hI, hμ, rs', r'⟩
  have hb := (body τ 0 t1 t2 hI).2 rfl
  refine hex (Φ.push fun xs' ys' => I xs' ys' ∧ μ xs' ys' < μ (τ.is ++ [0]) τ.ls) fid b hd.sl (hd.toH h).more _ _ ((ρ1.app τ).app ⟨[0], [], []⟩) a w (rs'.mono (Env.le_app _ _)) (r'.more 0) hb ?_
  intro e sl' h' ρ' a' w' l' rs2 r2 d2
  have l0' : ρ1.le ρ' := Env.le_trans (Env.le_app ρ1 τ) (Env.le_trans (Env.le_app _ _) l')
  -- the head again, with a flag
  have go : ∀ fl : Int, (an.norm sl' h' fun sl' h' =>
      let θ' := hd.read h sl' h'
      if hd.fits h sl' h' θ' then rangeNeeds θ' hd.rng h' fun _ _ => .again (θ'.is.drop h.ni ++ [.c fl]) (θ'.ls.drop h.nl) else .fail 203).den (Φ.push fun xs' ys' => I xs' ys' ∧ μ xs' ys' < μ (τ.is ++ [0]) τ.ls) ρ'.is ρ'.ls →
      ∃ τ' : Env, τ'.is.length = hd.xs.length ∧ τ'.ls.length = hd.ys.length ∧ I (τ'.is ++ [fl]) τ'.ls ∧ μ (τ'.is ++ [fl]) τ'.ls < μ (τ.is ++ [0]) τ.ls ∧ RepS (ρ1.app τ') hd.sl a' ∧ RepH C (ρ1.app τ') (hd.toH h) w' := by
    intro fl d2
    obtain ⟨slN, ρN, hN, wN, lN, rN, dN, eN, rsN⟩ := norm_spec (Φ := Φ.push fun xs' ys' => I xs' ys' ∧ μ xs' ys' < μ (τ.is ++ [0]) τ.ls) (C := C) (w := w') (an := an) rs2 r2 _ d2
    have lN' := Env.le_trans l0' lN
    simp only at dN
    split at dN
    case isFalse => exact dN.elim
    rename_i hfit'
    generalize hθ' : hd.read h slN hN = θ' at dN hfit'
    obtain ⟨_, ρ3, h3, w3, l3, r3, d3, e3, hp3, hlr3, er3, hrg'⟩ := rangeNeeds_spec (Φ := Φ.push fun xs' ys' => I xs' ys' ∧ μ xs' ys' < μ (τ.is ++ [0]) τ.ls) (C := C) (w := wN) hd.rng (fits_lt hfit' rN.ni) rN _ dN
    rw [er3] at d3
    simp only [Tree.den, Phi.push, Phi.top, List.map_append, List.map_cons, List.map_nil, At.den_c] at d3
    have again := Head.reabs r lN' rsN rN hfit' hrg'
    have hli' : (θ'.is.drop h.ni).length = hd.xs.length := by simp only [Head.fits, Bool.and_eq_true, decide_eq_true_eq] at hfit'; simp [hfit'.2.2.2.2.2.2.1]
    have hll' : (θ'.ls.drop h.nl).length = hd.ys.length := by simp only [Head.fits, Bool.and_eq_true, decide_eq_true_eq] at hfit'; simp [hfit'.2.2.2.2.2.2.2.1]
    rw [← eN]
    exact ⟨_, by rw [List.length_map]; exact hli', by rw [List.length_map]; exact hll', d3.1, d3.2, again.1, again.2⟩
  cases e with
  | norm =>
    obtain ⟨τ', q1, q2, q3, q4, q5, q6⟩ := go 0 d2
    exact ⟨_, by rw [← hμ]; exact q4, τ', q1, q2, q3, rfl, q5, q6⟩
  | exit id' =>
    simp only at d2
    split at d2
    · rename_i hid
      subst hid
      obtain ⟨τ', q1, q2, q3, q4, q5, q6⟩ := go 1 d2
      have d := (body τ' 1 q1 q2 q3).1 (by decide)
      exact hk (.exit id') _ _ _ _ _ (Env.le_trans (Env.le_app ρ1 τ') (Env.le_app _ _)) (q5.mono (Env.le_app _ _)) (q6.more 1) d
    · exact hk (.exit id') _ _ _ _ _ l0' rs2 r2 d2
  | ret => exact hk .ret _ _ _ _ _ l0' rs2 r2 d2
theorem loopAnn_sound {an : LoopAnn} {ex : CodeF} (hex : CodeOk P C ex) {fid : FuncId} {b : Code} {sl : Slots} {h : H} {k : Ex → Slots → H → Tree} {Q : Exit → Act → World → Prop} {ρ : Env} {a : Act} {w : World}
    (rs : RepS ρ sl a) (r : RepH C ρ h w) (hdn : (loopAnn an ex fid b sl h k).den Φ ρ.is ρ.ls)
    (hk : ∀ e sl' h' ρ' a' w', ρ.le ρ' → RepS ρ' sl' a' → RepH C ρ' h' w' → (k e sl' h').den Φ ρ'.is ρ'.ls → Q e.to a' w') : (Code.loop b).wp P Q a w := by
  unfold loopAnn at hdn
  obtain ⟨sl1, ρ1, h1, w1, l1, r1, d1, e1, rs1⟩ := norm_spec (Φ := Φ) (C := C) (w := w) (an := an) rs r _ hdn
  subst e1
  split at d1
  · exact loopAnn1_sound hex rs1 r1 d1 fun e sl' h' ρ' a' w' l => hk e sl' h' ρ' a' w' (Env.le_trans l1 l)
  · exact loopAnnJ_sound hex rs1 r1 d1 fun e sl' h' ρ' a' w' l => hk e sl' h' ρ' a' w' (Env.le_trans l1 l)
end
end Go.Sx
/- The executor as it is used: drawn regions in every order, loops by their annotations or unrolled. -/
set_option linter.unusedVariables false
namespace Go.Sx

def mkMore (P : Program) (cfg : Cfg) (anns : List LoopAnn) : More P cfg where
  draw := fun ex fid id ops sl h k => drawRegion P cfg ex ops sl h k
  loop := fun ex fid b => (anns.find? fun an => an.f == fid && firstReg b == some an.reg).map fun an => loopAnn an ex fid b
theorem mkMore_ok {P : Program} {cfg : Cfg} {anns : List LoopAnn} (hcfg : cfg.Ok P) (hmix : P.follows .mixedOrders = true) : ∀ C, RoOk C cfg.ro → (mkMore P cfg anns).Ok P cfg C := by
  intro C hro
  refine ⟨?_, ?_⟩
  · intro ex hex Φ fid id ops sl h k Q ρ a w rs r hd hk
    exact drawRegion_sound hex hcfg hro hmix rs r hd hk
  · intro ex hex Φ fid b f hf sl h k Q ρ a w rs r hd hk
    simp only [mkMore] at hf
    cases hfi : anns.find? fun an => an.f == fid && firstReg b == some an.reg with
    | none => rw [hfi] at hf; cases hf
    | some an =>
      rw [hfi] at hf
      simp only [Option.map_some, Option.some.injEq] at hf
      subst hf
      exact loopAnn_sound hex rs r hd hk

def FSpec.exe (s : FSpec) (P : Program) (cfg : Cfg) (anns : List LoopAnn) (rounds fuel : Nat) : Tree := s.tree P cfg (mkMore P cfg anns) rounds fuel
theorem FSpec.holds {P : Program} {cfg : Cfg} (anns : List LoopAnn) (rounds fuel : Nat) {s : FSpec} (hcfg : cfg.Ok P) (hmix : P.follows .mixedOrders = true)
    (hT : ∀ (is : List Int) (ls : List (List Int)), is.length = s.ni → ls.length = s.nl → s.rel.pre is ls → (∀ r ∈ s.irng, r.2.1 ≤ is.getD r.1 0 ∧ is.getD r.1 0 ≤ r.2.2) → (∀ r ∈ s.ilrng, ∀ x ∈ ls.getD r.1 [], r.2.1 ≤ x ∧ x ≤ r.2.2) →
      (s.exe P cfg anns rounds fuel).den ⟨s.rel.post is ls, []⟩ is ls) : s.Holds P cfg.ro :=
  FSpec.holds_of hcfg (mkMore_ok hcfg hmix) hT
end Go.Sx
