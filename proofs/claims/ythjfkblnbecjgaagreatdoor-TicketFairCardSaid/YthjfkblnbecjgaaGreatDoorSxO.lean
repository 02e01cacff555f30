/- One operation that is no call of a Go function. -/
import Derived.Test.YthjfkblnbecjgaaGreatDoorSxN
set_option linter.unusedVariables false
namespace Go.Sx

def with1 (x : Option SV) (f : SV → M SV) : M SV :=
  match x with
  | some x => f x
  | none => M.no 140
def opM (P : Program) (ro : List (Addr × Value)) (ev : Operand → Option SV) (o : Oper) : M SV :=
  match o.op with
  | .move x => lift (ev x)
  | .assign x => lift (ev x)
  | .pick c a b => pickM (ev c) (ev a) (ev b)
  | .alloc t => allocM P t
  | .box t x => with1 (ev x) (boxM t)
  | .build t ps => buildM P t (ps.toList.map fun p => (p.1, ev p.2))
  | .buildSlice t n ps => buildSliceM P t n (ps.toList.map fun p => (p.1, ev p.2))
  | .load t x => with1 (ev x) (ldVar P ro t)
  | .store t a x => with1 (ev a) fun a => with1 (ev x) fun x => do stVar P t a x; pure (.tup [])
  | .nilCheck x => with1 (ev x) nilChk
  | .binOp op t x y _ => with1 (ev x) fun u => with1 (ev y) fun v => binM P op t x y u v
  | .unOp op _ x => with1 (ev x) (unM op)
  | .convert s d x => with1 (ev x) (convM P s d)
  | .makeInterface t x => with1 (ev x) (mkIfaceM P t)
  | .makeFunc f first cs => if first.size = 0 then (match allSome (cs.toList.map ev) with
    | some xs => pure (.fn f xs)
    | none => M.no 141) else M.no 142
  | .makeSlice t l c => with1 (ev l) fun l => with1 (ev c) fun c => makeSliceM P t l c
  | .fieldAddr t x i => with1 (ev x) fun x => fieldAddrM P t x i
  | .field t x i => with1 (ev x) fun x => fieldM P t x i
  | .indexAddr t x i => with1 (ev x) fun x => with1 (ev i) fun i => indexAddrM P t x i
  | .index t x i => with1 (ev x) fun x => with1 (ev i) fun i => indexM P t x i
  | .extract x i => with1 (ev x) fun x => extractM x i
  | .call c => (match c.callee with
    | .builtin b => builtinM P b c.argTypes (c.args.toList.map ev)
    | _ => M.no 143)
  | _ => M.no 144

section
variable {Φ : Phi} {C : Ctx} {ρ : Env} {h : H} {w : World} {P : Program}

def OpDoes (P : Program) (ev : Operand → Value) (o : Oper) (w : World) : SV → Env → H → World → Prop := fun sv ρ1 _ w1 =>
  ∃ v, SvIs ρ1 sv v ∧ ((execOp ev o).run P w = .ok (.value v) w1 ∨ ((execOp ev o).run P w = .ok .skip w1 ∧ v = undef))

theorem allSome_is {ρ : Env} {sl : Slots} {a : Act} (r : RepS ρ sl a) : ∀ (l : List Operand) (xs : List SV), allSome (l.map (evalO sl)) = some xs → SV.oks ρ.is.length ρ.bs.length xs = true ∧ SV.dens ρ xs = l.map a.eval
  | [], xs, e => by cases e; exact ⟨rfl, rfl⟩
  | x :: l, xs, e => by
    simp only [List.map_cons] at e
    cases ex : evalO sl x with
    | none => rw [ex] at e; cases e
    | some y =>
      rw [ex] at e
      simp only [allSome] at e
      cases er : allSome (l.map (evalO sl)) with
      | none => rw [er] at e; cases e
      | some ys =>
        rw [er] at e
        simp only [Option.map_some, Option.some.injEq] at e
        subst e
        have ih := allSome_is r l ys er
        have hy := evalO_is r ex
        exact ⟨by simp only [SV.oks, Bool.and_eq_true]; exact ⟨hy.1, ih.1⟩, by simp only [SV.dens, List.map_cons, hy.2, ih.2]⟩
theorem parts_are {ρ : Env} {sl : Slots} {a : Act} (r : RepS ρ sl a) : ∀ (l : List (Nat × Operand)), PartsAre ρ (l.map fun p => (p.1, evalO sl p.2)) (l.map fun p => (p.1, a.eval p.2))
  | [] => trivial
  | p :: l => ⟨rfl, fun y hy => evalO_is r hy, parts_are r l⟩
theorem args_are {ρ : Env} {sl : Slots} {a : Act} (r : RepS ρ sl a) : ∀ (l : List Operand), ArgsAre ρ (l.map (evalO sl)) (l.map a.eval)
  | [] => trivial
  | p :: l => ⟨fun y hy => evalO_is r hy, args_are r l⟩

theorem with1_spec {x : Option SV} {f : SV → M SV} {R : SV → Env → H → World → Prop} {v : Value} (hx : ∀ y, x = some y → SvIs ρ y v) (hf : ∀ y, SvIs ρ y v → MSpec Φ C (f y) ρ h w R) :
    MSpec Φ C (with1 x f) ρ h w R := by
  unfold with1
  split
  · rename_i y
    exact hf y (hx y rfl)
  · exact MSpec.no

set_option maxHeartbeats 4000000 in
theorem opM_spec {ro : List (Addr × Value)} (hro : RoOk C ro) {sl : Slots} {a : Act} (r : RepS ρ sl a) (o : Oper) :
    MSpec Φ C (opM P ro (evalO sl) o) ρ h w (OpDoes P a.eval o w) := by
  have E : ∀ {x : Operand}, ∀ y, evalO sl x = some y → SvIs ρ y (a.eval x) := fun y hy => evalO_is r hy
  have val : ∀ (m : M SV) (s : Sem Value), execOp a.eval o = (do pure (.value (← s))) → MSpec Φ C m ρ h w (Does P s w) → MSpec Φ C m ρ h w (OpDoes P a.eval o w) := by
    intro m s hs hm
    refine hm.mono ?_
    rintro sv ρ1 h1 w1 l ⟨v, hv, hr⟩
    exact ⟨v, hv, .inl (by rw [hs]; simp [hr])⟩
  have valV : ∀ (m : M SV) (s : Sem Value), execOp a.eval o = (do pure (.value (← s))) → MSpec Φ C m ρ h w (DoesV P w h s) → MSpec Φ C m ρ h w (OpDoes P a.eval o w) := by
    intro m s hs hm
    refine val m s hs (hm.mono ?_)
    rintro sv ρ1 h1 w1 l ⟨e1, _, v, hv, hr⟩
    subst e1
    exact ⟨v, hv, hr _⟩
  obtain ⟨dst, op, type, pos, after, guard⟩ := o
  cases op <;> simp only [opM] <;> try exact MSpec.no
  case move x => exact (lift_spec (P := P) (s := pure (a.eval x)) E (fun W => by simp)).mono (by rintro sv ρ1 h1 w1 l ⟨e1, _, v, hv, hr⟩; subst e1; exact ⟨v, hv, .inl (by simpa [execOp] using hr w1)⟩)
  case assign x => exact (lift_spec (P := P) (s := pure (a.eval x)) E (fun W => by simp)).mono (by rintro sv ρ1 h1 w1 l ⟨e1, _, v, hv, hr⟩; subst e1; exact ⟨v, hv, .inl (by simpa [execOp] using hr w1)⟩)
  case pick c x y =>
    refine (pickM_spec (P := P) (cv := a.eval c) (av := a.eval x) (bv := a.eval y) E E E).mono ?_
    rintro sv ρ1 h1 w1 l ⟨e1, _, v, hv, hr⟩
    subst e1
    refine ⟨v, hv, .inl ?_⟩
    have hr := hr w1
    simp only [execOp, Sem.run_bind] at hr ⊢
    cases hb : (asBool (a.eval c)).run P w1 with
    | ok b w' =>
      rw [hb] at hr
      simp only [Result.andThen_ok, Sem.run_pure, Result.ok.injEq] at hr ⊢
      rw [hr.1]; exact ⟨rfl, hr.2⟩
    | halt x w' => rw [hb] at hr; cases hr
  case alloc t => exact val _ _ rfl allocM_spec
  case box t x => exact val _ _ rfl (with1_spec E fun y hy => boxM_spec hy)
  case build t ps => exact valV _ (Instr.build t (ps.map fun (i, x) => (i, a.eval x))) rfl (buildM_spec (by simpa using parts_are r ps.toList))
  case buildSlice t n ps => exact val _ (Instr.buildSlice t n (ps.map fun (i, x) => (i, a.eval x))) rfl (buildSliceM_spec (by simpa using parts_are r ps.toList))
  case load t x =>
    refine val _ _ rfl (with1_spec E fun y hy => (ldVar_spec hro hy).mono ?_)
    rintro sv ρ1 h1 w1 l ⟨e1, _, hd⟩
    subst e1; exact hd
  case store t p x =>
    refine with1_spec E fun u hu => with1_spec E fun y hy => ?_
    refine (stVar_spec (P := P) hu hy).bind ?_
    rintro _ ρ1 h1 w1 l1 hs
    exact MSpec.ret ⟨undef, ⟨rfl, rfl⟩, .inr ⟨by simp only [DoesU] at hs; simp [execOp, hs], rfl⟩⟩
  case nilCheck x =>
    refine with1_spec E fun y hy => (nilChk_spec (P := P) (w := w) hy (o := ⟨dst, .nilCheck x, type, pos, after, guard⟩) rfl rfl).mono ?_
    rintro sv ρ1 h1 w1 l ⟨e1, _, v, hv, hr⟩
    subst e1; exact ⟨v, hv, .inl (hr _)⟩
  case binOp op t x y ty =>
    refine valV _ _ rfl (with1_spec E fun u hu => with1_spec E fun v hv => binM_spec hu hv)
  case unOp op t x => exact valV _ _ rfl (with1_spec E fun y hy => unM_spec hy)
  case convert s d x => exact valV _ _ rfl (with1_spec E fun y hy => convM_spec hy)
  case makeInterface t x => exact valV _ _ rfl (with1_spec E fun y hy => mkIfaceM_spec hy)
  case makeFunc f first cs =>
    split
    · rename_i hf
      split
      · rename_i xs exs
        have hx := allSome_is r cs.toList xs exs
        refine MSpec.ret ⟨.func f #[] (SV.dens ρ xs).toArray, ⟨by rw [SV.ok]; exact hx.1, by rw [SV.den]⟩, .inl ?_⟩
        have e1 : first.map a.eval = #[] := by rw [Array.eq_empty_of_size_eq_zero hf]; simp
        have e2 : cs.map a.eval = (SV.dens ρ xs).toArray := by rw [hx.2, ← Array.toList_map]
        simp only [execOp, Instr.makeFunc, e1, e2]
        simp
      · exact MSpec.no
    · exact MSpec.no
  case makeSlice t l c => exact val _ _ rfl (with1_spec E fun y hy => with1_spec E fun z hz => makeSliceM_spec hy hz)
  case fieldAddr t x i => exact valV _ _ rfl (with1_spec E fun y hy => fieldAddrM_spec hy)
  case field t x i => exact valV _ _ rfl (with1_spec E fun y hy => fieldM_spec hy)
  case indexAddr t x i => exact valV _ _ rfl (with1_spec E fun y hy => with1_spec E fun z hz => indexAddrM_spec hy hz)
  case index t x i => exact valV _ _ rfl (with1_spec E fun y hy => with1_spec E fun z hz => indexM_spec hy hz)
  case extract x i => exact valV _ _ rfl (with1_spec E fun y hy => extractM_spec hy)
  case call c =>
    obtain ⟨callee, args, argTypes⟩ := c
    cases callee <;> simp only <;> try exact MSpec.no
    rename_i b
    refine (builtinM_spec (P := P) (ty := type) (vs := args.map a.eval) (by simpa using args_are r args.toList)).mono ?_
    rintro sv ρ1 h1 w1 l ⟨e1, _, v, hv, hr⟩
    subst e1
    exact ⟨v, hv, .inl (by simp [execOp, resolve, invoke, hr])⟩
end
end Go.Sx
