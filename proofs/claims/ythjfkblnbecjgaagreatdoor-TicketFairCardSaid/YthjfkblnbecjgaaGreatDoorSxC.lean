/- Simplifying an integer operation; a new variable. -/
import Derived.Test.YthjfkblnbecjgaaGreatDoorSxB
set_option linter.unusedVariables false
namespace Go.Sx

def IOp.atoms : IOp → List At
  | .add a b | .sub a b | .mul a b | .quo _ a b | .rem a b | .bit _ _ a b | .shl _ a b | .shr _ a b | .cmp _ a b | .mn a b | .mx a b => [a, b]
  | .wr _ a | .get _ a | .not a => [a]
  | .len _ => []
  | .pick c a b => [c, a, b]
def IOp.listy : IOp → Bool
  | .get .. | .len _ => true
  | _ => false
def At.isC : At → Bool
  | .c _ => true
  | .v _ => false
def IOp.closed (o : IOp) : Bool := !o.listy && o.atoms.all At.isC

theorem isC_den {a : At} (h : a.isC = true) (is js : List Int) : a.den is = a.den js := by cases a <;> simp_all [At.isC]
theorem closed_den {o : IOp} (h : o.closed = true) (is js : List Int) (ls ms : List (List Int)) : o.den is ls = o.den js ms := by
  cases o <;> simp only [IOp.closed, IOp.listy, IOp.atoms, List.all_cons, List.all_nil, Bool.and_true, Bool.not_false, Bool.true_and, Bool.and_eq_true, Bool.not_true, Bool.false_and, Bool.false_eq_true] at h <;>
    simp only [IOp.den]
  all_goals first
    | (rw [isC_den h.1 is js, isC_den h.2 is js]; done)
    | (rw [isC_den h is js]; done)
    | (rw [isC_den h.1 is js, isC_den h.2.1 is js, isC_den h.2.2 is js]; done)

/-- What the ranges say of a comparison. -/
def cmpR (op : BinOp) (x y : Rng) : Option Bool :=
  match x, y with
  | some (l1, u1), some (l2, u2) =>
    match op with
    | .eql => if u1 < l2 || u2 < l1 then some false else if l1 == u1 && l2 == u2 && l1 == l2 then some true else none
    | .neq => if u1 < l2 || u2 < l1 then some true else if l1 == u1 && l2 == u2 && l1 == l2 then some false else none
    | .lss => if u1 < l2 then some true else if u2 ≤ l1 then some false else none
    | .leq => if u1 ≤ l2 then some true else if u2 < l1 then some false else none
    | .gtr => if u2 < l1 then some true else if u1 ≤ l2 then some false else none
    | .geq => if u2 ≤ l1 then some true else if u1 < l2 then some false else none
    | _ => none
  | _, _ => none
theorem cmpR_ok {op : BinOp} {x y : Int} {r s : Rng} {b : Bool} (hx : inR x r) (hy : inR y s) (h : cmpR op r s = some b) : cmpB op x y = b := by
  unfold cmpR at h
  split at h
  · simp only [inR] at hx hy
    split at h <;> (repeat' split at h) <;> simp_all [cmpB] <;> omega
  · cases h

def sameAt (a b : At) : Bool := decide (a = b)
def H.simp (h : H) (o : IOp) : Option At :=
  if o.closed then some (.c (o.den [] [])) else
  match o with
  | .add a (.c n) => if n = 0 then some a else none
  | .add (.c n) a => if n = 0 then some a else none
  | .sub a (.c n) => if n = 0 then some a else none
  | .mul a (.c n) => if n = 1 then some a else none
  | .wr k a => match h.range a with
    | some (l, u) => if k.min ≤ l && u ≤ k.max then some a else none
    | none => none
  | .rem a (.c n) => match h.range a with
    | some (l, u) => if 0 ≤ l && u < n then some a else none
    | none => none
  | .cmp op a b => match cmpR op (h.range a) (h.range b) with
    | some r => some (.c (b2i r))
    | none => if sameAt a b then (match op with | .eql => some (.c 1) | .neq => some (.c 0) | .leq => some (.c 1) | .geq => some (.c 1) | .lss => some (.c 0) | .gtr => some (.c 0) | _ => none) else none
  | .mn a b => match cmpR .lss (h.range b) (h.range a) with
    | some true => some b
    | some false => some a
    | none => none
  | .mx a b => match cmpR .gtr (h.range b) (h.range a) with
    | some true => some b
    | some false => some a
    | none => none
  | .pick (.c n) a b => some (if n = 0 then b else a)
  | _ => none

theorem simp_ok {C : Ctx} {ρ : Env} {h : H} {w : World} (f : Facts C ρ h w) {o : IOp} {a : At} (e : h.simp o = some a) : a.den ρ.is = o.den ρ.is ρ.ls := by
  have R := fun a => range_ok f a
  unfold H.simp at e
  split at e
  · rename_i hc; cases e; exact closed_den hc _ _ _ _
  · split at e
    · split at e
      · cases e; simp [IOp.den, *]
      · cases e
    · split at e
      · cases e; simp [IOp.den, *]
      · cases e
    · split at e
      · cases e; simp [IOp.den, *]
      · cases e
    · split at e
      · cases e; simp [IOp.den, *]
      · cases e
    · rename_i k x _
      have hx := R x
      split at e
      · rename_i l u er
        rw [er] at hx
        split at e
        · rename_i hc
          simp only [Bool.and_eq_true, decide_eq_true_eq] at hc
          cases e
          simp only [inR] at hx
          simp only [IOp.den]
          rw [wrap_in k _ (by omega) (by omega)]
        · cases e
      · cases e
    · rename_i x n _
      have hx := R x
      split at e
      · rename_i l u er
        rw [er] at hx
        split at e
        · rename_i hc
          simp only [Bool.and_eq_true, decide_eq_true_eq] at hc
          cases e
          simp only [inR] at hx
          simp only [IOp.den, At.den_c]
          rw [Int.tmod_eq_of_lt (by omega) (by omega)]
        · cases e
      · cases e
    · rename_i op x y _
      split at e
      · rename_i r er
        cases e
        simp only [IOp.den, At.den_c]
        rw [cmpR_ok (R x) (R y) er]
      · split at e
        · rename_i hs
          have hs' : x = y := of_decide_eq_true hs
          subst hs'
          split at e <;> first | (cases e; done) | (cases e; simp [IOp.den, cmpB, b2i])
        · cases e
    · rename_i x y _
      split at e
      · rename_i er
        have := cmpR_ok (R y) (R x) er
        cases e
        simp only [cmpB, decide_eq_true_eq] at this
        simp [IOp.den, this]
      · rename_i er
        have := cmpR_ok (R y) (R x) er
        cases e
        simp only [cmpB, decide_eq_false_iff_not] at this
        simp [IOp.den, this]
      · cases e
    · rename_i x y _
      split at e
      · rename_i er
        have := cmpR_ok (R y) (R x) er
        cases e
        simp only [cmpB, decide_eq_true_eq] at this
        simp [IOp.den, this]
      · rename_i er
        have := cmpR_ok (R y) (R x) er
        cases e
        simp only [cmpB, decide_eq_false_iff_not] at this
        simp [IOp.den, this]
      · cases e
    · cases e
      simp only [IOp.den, At.den_c]
      split <;> simp [*]
    · cases e

def IOp.keep : IOp → Bool
  | _ => true
/-- An operation that has one value alone. -/
def H.single (h : H) (o : IOp) : Option Int :=
  match h.rangeOf o with
  | some r => if r.1 = r.2 then some r.1 else none
  | none => none
def H.known (h : H) (o : IOp) : Option Nat :=
  match h.defs.find? (fun d => decide (d.2 = o)) with
  | some d => if d.1 < h.ni then some d.1 else none
  | none => none
def H.push (h : H) (o : IOp) : H :=
  { h with ni := h.ni + 1, rng := (match h.rangeOf o with | some r => (h.ni, r) :: h.rng | none => h.rng), defs := (if o.keep then (h.ni, o) :: h.defs else h.defs) }
/-- The same operation, its operands in order. -/
def IOp.canon : IOp → IOp
  | .cmp .eql (.c n) (.v i) => .cmp .eql (.v i) (.c n)
  | .cmp .eql (.v i) (.v j) => if j < i then .cmp .eql (.v j) (.v i) else .cmp .eql (.v i) (.v j)
  | .cmp .neq (.c n) (.v i) => .cmp .neq (.v i) (.c n)
  | .cmp .neq (.v i) (.v j) => if j < i then .cmp .neq (.v j) (.v i) else .cmp .neq (.v i) (.v j)
  | o => o
theorem beq_swap (a b : Int) : (a == b) = (b == a) := by
  by_cases h : a = b
  · rw [h]
  · have h' : b ≠ a := fun e => h e.symm
    rw [beq_eq_false_iff_ne.2 h, beq_eq_false_iff_ne.2 h']
theorem bne_swap (a b : Int) : (a != b) = (b != a) := congrArg not (beq_swap a b)
theorem canon_den (o : IOp) (is : List Int) (ls : List (List Int)) : o.canon.den is ls = o.den is ls := by
  unfold IOp.canon
  split
  · simp only [IOp.den, cmpB]; rw [beq_swap]
  · split
    · simp only [IOp.den, cmpB]; rw [beq_swap]
    · rfl
  · simp only [IOp.den, cmpB]; rw [bne_swap]
  · split
    · simp only [IOp.den, cmpB]; rw [bne_swap]
    · rfl
  · rfl
theorem canon_atoms {o : IOp} {p : At → Bool} (h : o.atoms.all p = true) : o.canon.atoms.all p = true := by
  unfold IOp.canon
  split
  · simp_all [IOp.atoms]
  · split <;> simp_all [IOp.atoms]
  · simp_all [IOp.atoms]
  · split <;> simp_all [IOp.atoms]
  · exact h
def mkI0 (o : IOp) : M At := fun h k =>
  match h.simp o with
  | some a => k a h
  | none => match h.single o with
    | some n => k (.c n) h
    | none => match h.known o with
      | some i => k (.v i) h
      | none => .letI o (k (.v h.ni) (h.push o))

def mkI (o : IOp) : M At := mkI0 o.canon

def OpIs (ρ : Env) (o : IOp) (x : Int) : Prop := ∀ σ : Env, o.den (ρ.app σ).is (ρ.app σ).ls = x
theorem OpIs.val {ρ : Env} {o : IOp} {x : Int} (h : OpIs ρ o x) : o.den ρ.is ρ.ls = x := by have := h .nil; rwa [Env.app_nil] at this
theorem OpIs.mono {ρ ρ' : Env} {o : IOp} {x : Int} (h : OpIs ρ o x) (l : ρ.le ρ') : OpIs ρ' o x := by
  obtain ⟨τ, rfl⟩ := l
  intro _; rw [Env.app_assoc]; exact h _

def Env.pushI (ρ : Env) (x : Int) : Env := ρ.app ⟨[x], [], []⟩
theorem pushI_at (ρ : Env) (x : Int) : AtIs (ρ.pushI x) (.v ρ.is.length) x := by
  simp [AtIs, At.lt, Env.pushI, Env.app]

theorem Blk.holds_congr {C : Ctx} {ρ : Env} {w w' : World} {n : Nat} {b : Blk} (hh : ∀ p ∈ b.phys ρ n, w'.heap[p]? = w.heap[p]?) (h : b.holds C ρ w n) : b.holds C ρ w' n := by
  cases b with
  | cells xs sz el =>
    have := hh (ρ.b n).1 (by simp [Blk.phys])
    simp only [Blk.holds, HasCells] at *
    rw [this]; exact h
  | arr ks l len sz el =>
    refine ⟨h.1, h.2.1, fun hz => ?_⟩
    have := hh _ (by simp only [Blk.phys, if_neg hz]; exact List.mem_singleton.2 rfl)
    have h3 := h.2.2 hz
    simp only [HasCells] at *
    rw [this]; exact h3
  | ro ks l len => exact h
  | map ks vs =>
    have := hh (ρ.b n).1 (by simp [Blk.phys])
    simp only [Blk.holds, HasMap] at *
    rw [this]; exact h
theorem BlkOk.keepP {C : Ctx} {ρ : Env} {w w' : World} {n : Nat} {b : Blk} (h : BlkOk C ρ w n b) (hh : ∀ p ∈ b.phys ρ n, w'.heap[p]? = w.heap[p]?) : BlkOk C ρ w' n b :=
  ⟨h.lt, h.inB, h.mine, Blk.holds_congr hh h.holds⟩
theorem BlkOk.keep {C : Ctx} {ρ : Env} {w w' : World} {n : Nat} {b : Blk} (h : BlkOk C ρ w n b) (hh : w'.heap = w.heap) : BlkOk C ρ w' n b :=
  h.keepP fun p _ => by rw [hh]

theorem RepH.pushI {C : Ctx} {ρ : Env} {h : H} {w : World} (r : RepH C ρ h w) {o : IOp} {x : Int} (hx : OpIs ρ o x) : RepH C (ρ.pushI x) (h.push o) w := by
  refine ⟨by simp [Env.pushI, Env.app, H.push, r.ni], by simp [Env.pushI, Env.app, H.push, r.nl], by simp [Env.pushI, Env.app, H.push, r.nb], fun σ => ?_, r.frame⟩
  have f := r.facts ((⟨[x], [], []⟩ : Env).app σ)
  rw [← Env.app_assoc] at f
  have hat : ((ρ.pushI x).app σ).is.getD h.ni 0 = x := by rw [← r.ni]; exact (pushI_at ρ x).app σ
  have hop : o.den ((ρ.pushI x).app σ).is ((ρ.pushI x).app σ).ls = x := by
    have := hx ((⟨[x], [], []⟩ : Env).app σ)
    rwa [← Env.app_assoc] at this
  refine ⟨f.heap, f.nodup, fun q hq => ?_, fun d hd => ?_, f.lrng⟩
  · simp only [H.push] at hq
    split at hq
    · rename_i rr er
      rcases List.mem_cons.1 hq with rfl | hq
      · simp only
        have g := rangeOf_ok f o
        rw [er] at g
        have hop' : o.den ((ρ.app ⟨[x], [], []⟩).app σ).is ((ρ.app ⟨[x], [], []⟩).app σ).ls = x := hop
        rw [hop'] at g
        rw [hat]
        exact g
      · exact f.rng q hq
    · exact f.rng q hq
  · simp only [H.push] at hd
    split at hd
    · rcases List.mem_cons.1 hd with rfl | hd
      · rw [hat]; exact hop.symm
      · exact f.defs d hd
    · exact f.defs d hd

section
variable {Φ : Phi} {C : Ctx} {ρ : Env} {h : H} {w : World}
theorem simp_lt {h : H} {o : IOp} {a : At} {n : Nat} (e : h.simp o = some a) (ho : o.atoms.all (At.lt n) = true) : a.lt n = true := by
  unfold H.simp at e
  (repeat' split at e) <;> first
    | (cases e; done)
    | (cases e; rfl)
    | (cases e; simp_all [IOp.atoms])
    | (cases e; simp_all [IOp.atoms]; split <;> simp_all)
theorem mkI0_spec {o : IOp} {x : Int} (ho : o.atoms.all (At.lt ρ.is.length) = true) (hx : OpIs ρ o x) : MSpec Φ C (mkI0 o) ρ h w fun a ρ' h' w' => w' = w ∧ h'.hp = h.hp ∧ AtIs ρ' a x := by
  intro hh k hk
  unfold mkI0 at hk
  split at hk
  · rename_i a e
    have f0 := hh.facts .nil
    rw [Env.app_nil] at f0
    exact ⟨a, ρ, h, w, Env.le_refl ρ, hh, hk, rfl, rfl, simp_lt e ho, (simp_ok f0 e).trans hx.val⟩
  split at hk
  · rename_i n e
    have f0 := hh.facts .nil
    rw [Env.app_nil] at f0
    unfold H.single at e
    have g := rangeOf_ok f0 o
    split at e
    · rename_i r er
      rw [er] at g
      simp only [inR] at g
      split at e
      · rename_i hr
        cases e
        rw [hx.val] at g
        have hn : r.1 = x := by omega
        exact ⟨.c r.1, ρ, h, w, Env.le_refl ρ, hh, hk, rfl, rfl, rfl, hn⟩
      · cases e
    · cases e
  split at hk
  · rename_i i e
    have f0 := hh.facts .nil
    rw [Env.app_nil] at f0
    unfold H.known at e
    split at e
    · rename_i d ed
      split at e
      · rename_i hi
        cases e
        have hd := f0.defs d (List.mem_of_find?_eq_some ed)
        have heq : d.2 = o := by have := List.find?_some ed; simpa using this
        rw [heq, hx.val] at hd
        refine ⟨.v d.1, ρ, h, w, Env.le_refl ρ, hh, hk, rfl, rfl, ?_, hd⟩
        rw [hh.ni]; simpa [At.lt] using hi
      · cases e
    · cases e
  · simp only [Tree.den] at hk
    have hk' := hk x hx.val.symm
    refine ⟨.v h.ni, ρ.pushI x, h.push o, w, Env.le_app _ _, hh.pushI hx, ?_, rfl, rfl, ?_⟩
    · simpa [Env.pushI, Env.app] using hk'
    · rw [← hh.ni]; exact pushI_at ρ x
theorem mkI_spec {o : IOp} {x : Int} (ho : o.atoms.all (At.lt ρ.is.length) = true) (hx : OpIs ρ o x) : MSpec Φ C (mkI o) ρ h w fun a ρ' h' w' => w' = w ∧ h'.hp = h.hp ∧ AtIs ρ' a x :=
  mkI0_spec (canon_atoms ho) fun σ => (canon_den o _ _).trans (hx σ)
end

end Go.Sx
