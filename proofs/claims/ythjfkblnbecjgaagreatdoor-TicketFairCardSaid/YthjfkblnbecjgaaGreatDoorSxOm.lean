/- One operation that is no call of a Go function: all of them. -/
import Derived.Test.YthjfkblnbecjgaaGreatDoorSxOl
set_option linter.unusedVariables false
namespace Go.Sx

def hasRoom : SV → SV → Bool
  | .slc _ _ (.c len) (.c cap), .slc _ _ (.c k) _ => decide (0 ≤ len) && (decide (0 ≤ k) && decide (len + k ≤ cap))
  | _, _ => false
def isIntS : SV → Option At
  | .i _ a => some a
  | _ => none
def lenV (x : SV) : M SV :=
  match x with
  | .vec n len cap => do let a ← vecLen n len cap; pure (.i .i64 a)
  | _ => M.no 470
def isVec : SV → Bool
  | .vec _ _ _ => true
  | _ => false
def isSliceT (P : Program) (t : TypeId) : Bool := match P.underlying t with | some (.slice _) => true | _ => false
def builtinW (P : Program) (b : Builtin) (ts : List TypeId) (xs : List (Option SV)) : Option (M SV) :=
  match b, xs, ts with
  | .len, [some x], [t] => if isVec x && isSliceT P t then some (lenV x) else none
  | .cap, [some x], [t] => if isSliceT P t then some (capM x) else none
  | .append, [some x, some y], [t, t'] => some (match isIntS y with
    | some a => zerosM P t t' x a
    | none => if hasRoom x y then appendM P t t' x y else append2 P t t' x y)
  | .copy, [some x, some y], [t, t'] => some (do
      let x ← asSlc x
      let y ← asSlc y
      copyM P t x y)
  | .clear, [some x], [t] => some (do
      let x ← asSlc x
      clearM P t x)
  | _, _, _ => none
def opW (P : Program) (ro : List (Addr × Value)) (ev : Operand → Option SV) (o : Oper) : M SV :=
  match o.op with
  | .slice t x lo hi mx => with1 (ev x) fun u => sliceV P ev t u lo hi mx
  | .call c => (match c.callee with
    | .builtin b => (match builtinW P b c.argTypes.toList (c.args.toList.map ev) with
      | some m => m
      | none => opZ P ro ev o)
    | _ => opZ P ro ev o)
  | _ => opZ P ro ev o

section
variable {Φ : Phi} {C : Ctx} {ρ : Env} {h : H} {w : World} {P : Program}
theorem isSliceT_ok {t : TypeId} (e : isSliceT P t = true) : ∃ elem, P.underlying t = some (.slice elem) := by
  unfold isSliceT at e
  split at e
  · rename_i el eu; exact ⟨el, eu⟩
  · cases e
theorem lenV_spec {t : TypeId} {x : SV} {v : Value} (ht : isSliceT P t = true) (hx : SvIs ρ x v) : MSpec Φ C (lenV x) ρ h w fun sv ρ' _ w' => ∃ z, SvIs ρ' sv z ∧ ∀ ty, (Builtin.len_ #[t] ty #[v]).run P w = .ok z w' := by
  obtain ⟨elem, eu⟩ := isSliceT_ok ht
  unfold lenV
  split
  · rename_i n len cap
    obtain ⟨hn, hl, hc, rfl⟩ := hx.vec
    refine (vecLen_spec (n := n) hl hc).bind ?_
    rintro a ρ1 h1 w1 l1 ⟨rfl, hp1, h0, ha⟩
    refine MSpec.ret ⟨_, ha.svi, fun ty => ?_⟩
    by_cases hz : cap.den ρ.is = 0
    · simp [Builtin.len_, run_underlying eu, goInt, hz]
    · simp [Builtin.len_, run_underlying eu, goInt, hz, Int.toNat_of_nonneg h0]
  · exact MSpec.no
theorem isIntS_ok {x : SV} {v : Value} {a : At} (hx : SvIs ρ x v) (e : isIntS x = some a) : ∃ k, AtIs ρ a (a.den ρ.is) ∧ v = .int k (a.den ρ.is) := by
  unfold isIntS at e
  split at e
  · rename_i k b
    cases e
    obtain ⟨h1, h2⟩ := hx.int
    exact ⟨k, h1, h2⟩
  · cases e
theorem builtinW_spec {sl : Slots} {a : Act} (r : RepS ρ sl a) {b : Builtin} {ts : List TypeId} {args : List Operand} {m : M SV} (e : builtinW P b ts (args.map (evalO sl)) = some m) :
    MSpec Φ C m ρ h w fun sv ρ' _ w' => ∃ z, SvIs ρ' sv z ∧ ∀ ty cs, (builtin b ts.toArray ty cs (args.map a.eval).toArray).run P w = .ok (.value z) w' := by
  unfold builtinW at e
  generalize hxs : args.map (evalO sl) = xs at e
  have one : ∀ {x : SV}, xs = [some x] → ∃ p, args = [p] ∧ SvIs ρ x (a.eval p) := by
    intro x hx
    subst hx
    match args, hxs with
    | [p], hxs =>
      simp only [List.map_cons, List.map_nil, List.cons.injEq, and_true] at hxs
      exact ⟨p, rfl, evalO_is r hxs⟩
    | [], hxs => cases hxs
    | _ :: _ :: _, hxs => simp at hxs
  have two : ∀ {x y : SV}, xs = [some x, some y] → ∃ p q, args = [p, q] ∧ SvIs ρ x (a.eval p) ∧ SvIs ρ y (a.eval q) := by
    intro x y hx
    subst hx
    match args, hxs with
    | [p, q], hxs =>
      simp only [List.map_cons, List.map_nil, List.cons.injEq, and_true] at hxs
      exact ⟨p, q, rfl, evalO_is r hxs.1, evalO_is r hxs.2⟩
    | [], hxs => cases hxs
    | [_], hxs => simp at hxs
    | _ :: _ :: _ :: _, hxs => simp at hxs
  split at e
  · rename_i x t
    split at e
    · rename_i hc
      cases e
      simp only [Bool.and_eq_true] at hc
      obtain ⟨p, rfl, hx⟩ := one rfl
      refine (lenV_spec (P := P) hc.2 hx).mono ?_
      rintro sv ρ' h' w' l ⟨z, hz, hr⟩
      exact ⟨z, hz, fun ty cs => by simp [builtin, hr]⟩
    · cases e
  · rename_i x t
    split at e
    · rename_i hc
      cases e
      obtain ⟨p, rfl, hx⟩ := one rfl
      obtain ⟨el, eu⟩ := isSliceT_ok hc
      refine (capM_spec (P := P) (ty := 0) eu hx).mono ?_
      rintro sv ρ' h' w' l ⟨rfl, hp, z, hz, hr⟩
      exact ⟨z, hz, fun ty cs => by
        have e : Builtin.cap_ #[t] ty #[a.eval p] = Builtin.cap_ #[t] 0 #[a.eval p] := rfl
        simp [builtin, e, hr w']⟩
    · cases e
  · rename_i x y t t'
    cases e
    obtain ⟨p, q, rfl, hx, hy⟩ := two rfl
    split
    · rename_i at_ ea
      obtain ⟨k, ha, hv⟩ := isIntS_ok hy ea
      refine (zerosM_spec (P := P) (t := t) (t' := t') (k := k) hx ha).mono ?_
      rintro sv ρ' h' w' l ⟨z, hz, hr⟩
      exact ⟨z, hz, fun ty cs => by simp [builtin, hv, hr]⟩
    · split
      · refine (appendM_spec (P := P) (t := t) (t' := t') (ty := 0) hx hy).mono ?_
        rintro sv ρ' h' w' l ⟨z, hz, hr⟩
        exact ⟨z, hz, fun ty cs => by
          have e : Builtin.append_ #[t, t'] ty #[a.eval p, a.eval q] = Builtin.append_ #[t, t'] 0 #[a.eval p, a.eval q] := rfl
          simp [builtin, e, hr]⟩
      · refine (append2_spec (P := P) (t := t) (t' := t') hx hy).mono ?_
        rintro sv ρ' h' w' l ⟨z, hz, hr⟩
        exact ⟨z, hz, fun ty cs => by simp [builtin, hr]⟩
  · rename_i x y t t'
    cases e
    obtain ⟨p, q, rfl, hx, hy⟩ := two rfl
    refine (asSlc_spec hx).bind ?_
    rintro x' ρ1 h1 w1 l1 ⟨rfl, hp1, hx'⟩
    refine (asSlc_spec (hy.mono l1)).bind ?_
    rintro y' ρ2 h2 w2 l2 ⟨rfl, hp2, hy'⟩
    refine (copyM_spec (P := P) (t := t) (t' := t') (hx'.mono l2) hy').mono ?_
    rintro sv ρ' h' w' l ⟨z, hz, hr⟩
    exact ⟨z, hz, fun ty cs => by simp [builtin, hr]⟩
  · rename_i x t
    cases e
    obtain ⟨p, rfl, hx⟩ := one rfl
    refine (asSlc_spec hx).bind ?_
    rintro x' ρ1 h1 w1 l1 ⟨rfl, hp1, hx'⟩
    refine (clearM_spec (P := P) (t := t) hx').mono ?_
    rintro sv ρ' h' w' l ⟨z, hz, hr⟩
    exact ⟨z, hz, fun ty cs => by simp [builtin, hr]⟩
  · cases e
theorem opW_spec {ro : List (Addr × Value)} (hro : RoOk C ro) {sl : Slots} {a : Act} (r : RepS ρ sl a) (o : Oper) :
    MSpec Φ C (opW P ro (evalO sl) o) ρ h w (OpDoes P a.eval o w) := by
  unfold opW
  split
  · rename_i t x lo hi mx ho
    refine (with1_spec (fun y hy => evalO_is r hy) fun y hy => sliceV_spec (P := P) (w := w) (h := h) r hy lo hi mx).mono ?_
    rintro sv ρ1 h1 w1 l ⟨rfl, _, v, hv, hr⟩
    refine ⟨v, hv, .inl ?_⟩
    obtain ⟨dst, op, type, pos, after, guard⟩ := o
    simp only at ho
    subst ho
    simp [execOp, hr]
  · rename_i c ho
    split
    · rename_i b hb
      split
      · rename_i m em
        refine (builtinW_spec (P := P) (w := w) (h := h) r em).mono ?_
        rintro sv ρ1 h1 w1 l ⟨z, hz, hr⟩
        refine ⟨z, hz, .inl ?_⟩
        obtain ⟨dst, op, type, pos, after, guard⟩ := o
        simp only at ho
        subst ho
        obtain ⟨callee, args, argTypes⟩ := c
        simp only at hb
        subst hb
        have e2 : (args.toList.map a.eval).toArray = args.map a.eval := by apply Array.ext'; simp
        have hr' : ∀ ty cs, (builtin b argTypes ty cs (args.map a.eval)).run P w = .ok (.value z) w1 := fun ty cs => by
          have := hr ty cs
          rw [e2] at this
          simpa using this
        simp [execOp, resolve, invoke, hr']
      · exact opZ_spec hro r o
    · exact opZ_spec hro r o
  · exact opZ_spec hro r o
end
end Go.Sx
