/- Tests, demands, new lists. -/
import Derived.Test.YthjfkblnbecjgaaGreatDoorSxC
set_option linter.unusedVariables false
namespace Go.Sx

def H.setR (h : H) (a : At) (r : Int × Int) : H :=
  match a with
  | .v i => { h with rng := (i, r) :: h.rng }
  | .c _ => h
def imin (a b : Int) : Int := if a ≤ b then a else b
def imax (a b : Int) : Int := if a ≤ b then b else a
def H.assume (h : H) (op : BinOp) (a b : At) : H :=
  match h.range a, h.range b with
  | some (la, ua), some (lb, ub) =>
    match op with
    | .lss => (h.setR a (la, imin ua (ub - 1))).setR b (imax lb (la + 1), ub)
    | .leq => (h.setR a (la, imin ua ub)).setR b (imax lb la, ub)
    | .gtr => (h.setR a (imax la (lb + 1), ua)).setR b (lb, imin ub (ua - 1))
    | .geq => (h.setR a (imax la lb, ua)).setR b (lb, imin ub ua)
    | .eql => (h.setR a (imax la lb, imin ua ub)).setR b (imax la lb, imin ua ub)
    | .neq => if lb = ub then (if la = lb then h.setR a (la + 1, ua) else if ua = lb then h.setR a (la, ua - 1) else h) else h
    | _ => h
  | _, _ => h

theorem setR_facts {C : Ctx} {ρ : Env} {h : H} {w : World} (f : Facts C ρ h w) {a : At} {r : Int × Int} (hr : r.1 ≤ a.den ρ.is ∧ a.den ρ.is ≤ r.2) : Facts C ρ (h.setR a r) w := by
  cases a with
  | c n => exact f
  | v i =>
    refine ⟨f.heap, f.nodup, fun q hq => ?_, f.defs, f.lrng⟩
    rcases List.mem_cons.1 hq with rfl | hq
    · exact hr
    · exact f.rng q hq
@[simp] theorem setR_hp (h : H) (a : At) (r : Int × Int) : (h.setR a r).hp = h.hp := by cases a <;> rfl
@[simp] theorem setR_ni (h : H) (a : At) (r : Int × Int) : (h.setR a r).ni = h.ni := by cases a <;> rfl
@[simp] theorem setR_nl (h : H) (a : At) (r : Int × Int) : (h.setR a r).nl = h.nl := by cases a <;> rfl
@[simp] theorem setR_nb (h : H) (a : At) (r : Int × Int) : (h.setR a r).nb = h.nb := by cases a <;> rfl

theorem assume_facts {C : Ctx} {ρ : Env} {h : H} {w : World} (f : Facts C ρ h w) {op : BinOp} {a b : At} (hc : cmpB op (a.den ρ.is) (b.den ρ.is) = true) : Facts C ρ (h.assume op a b) w := by
  have ha := range_ok f a
  have hb := range_ok f b
  unfold H.assume
  split
  · rename_i la ua lb ub ea eb
    rw [ea] at ha; rw [eb] at hb
    simp only [inR] at ha hb
    have two : ∀ r s : Int × Int, (r.1 ≤ a.den ρ.is ∧ a.den ρ.is ≤ r.2) → (s.1 ≤ b.den ρ.is ∧ b.den ρ.is ≤ s.2) → Facts C ρ ((h.setR a r).setR b s) w := fun r s h1 h2 => setR_facts (setR_facts f h1) h2
    have mn : ∀ x y z : Int, z ≤ x → z ≤ y → z ≤ imin x y := fun x y z h1 h2 => by unfold imin; split <;> omega
    have mx : ∀ x y z : Int, x ≤ z → y ≤ z → imax x y ≤ z := fun x y z h1 h2 => by unfold imax; split <;> omega
    cases op <;> simp only [cmpB, beq_iff_eq, bne_iff_ne, decide_eq_true_eq, Bool.false_eq_true] at hc
    case eql => exact two _ _ ⟨mx _ _ _ (by omega) (by omega), mn _ _ _ (by omega) (by omega)⟩ ⟨mx _ _ _ (by omega) (by omega), mn _ _ _ (by omega) (by omega)⟩
    case lss => exact two _ _ ⟨by omega, mn _ _ _ (by omega) (by omega)⟩ ⟨mx _ _ _ (by omega) (by omega), by omega⟩
    case leq => exact two _ _ ⟨by omega, mn _ _ _ (by omega) (by omega)⟩ ⟨mx _ _ _ (by omega) (by omega), by omega⟩
    case gtr => exact two _ _ ⟨mx _ _ _ (by omega) (by omega), by omega⟩ ⟨by omega, mn _ _ _ (by omega) (by omega)⟩
    case geq => exact two _ _ ⟨mx _ _ _ (by omega) (by omega), by omega⟩ ⟨by omega, mn _ _ _ (by omega) (by omega)⟩
    case neq =>
      simp only
      (repeat' split) <;> first
        | exact f
        | exact setR_facts f ⟨by simp only; omega, by simp only; omega⟩
  · exact f
@[simp] theorem assume_hp (h : H) (op : BinOp) (a b : At) : (h.assume op a b).hp = h.hp := by
  unfold H.assume; repeat' split
  all_goals simp
@[simp] theorem assume_ni (h : H) (op : BinOp) (a b : At) : (h.assume op a b).ni = h.ni := by
  unfold H.assume; repeat' split
  all_goals simp
@[simp] theorem assume_nl (h : H) (op : BinOp) (a b : At) : (h.assume op a b).nl = h.nl := by
  unfold H.assume; repeat' split
  all_goals simp
@[simp] theorem assume_nb (h : H) (op : BinOp) (a b : At) : (h.assume op a b).nb = h.nb := by
  unfold H.assume; repeat' split
  all_goals simp

def negOp : BinOp → BinOp
  | .eql => .neq | .neq => .eql | .lss => .geq | .geq => .lss | .leq => .gtr | .gtr => .leq | o => o
def isCmp : BinOp → Bool
  | .eql | .neq | .lss | .leq | .gtr | .geq => true
  | _ => false
theorem negOp_ok {op : BinOp} (h : isCmp op = true) (x y : Int) : cmpB (negOp op) x y = !cmpB op x y := by
  cases op <;> first | (simp [isCmp] at h; done) | (simp [negOp, cmpB]; done) | (simp only [negOp, cmpB, ← decide_not, decide_eq_decide]; omega) | (simp only [negOp, cmpB, bne, Bool.not_not])

def H.assumeB (h : H) (a : At) (b : Bool) : Nat → H
  | 0 => h
  | n + 1 =>
    let h1 := h.assume (if b then .neq else .eql) a (.c 0)
    match a with
    | .c _ => h1
    | .v i => match h.defs.find? (·.1 == i) with
      | some (_, .cmp op x y) => if isCmp op then h1.assume (if b then op else negOp op) x y else h1
      | some (_, .not x) => h1.assumeB x (!b) n
      | some (_, .pick c x y) =>
        if b then (if y = .c 0 then (h1.assumeB c true n).assumeB x true n else h1)
        else (if x = .c 1 then (h1.assumeB c false n).assumeB y false n else h1)
      | _ => h1

theorem assumeB_facts {C : Ctx} {ρ : Env} {w : World} {b : Bool} : ∀ (n : Nat) {h : H} {a : At}, Facts C ρ h w → ((a.den ρ.is != 0) = b) → Facts C ρ (h.assumeB a b n) w
  | 0, h, a, f, hb => f
  | n + 1, h, a, f, hb => by
    have f1 : Facts C ρ (h.assume (if b then .neq else .eql) a (.c 0)) w := by
      refine assume_facts f ?_
      cases b <;> simp_all [cmpB]
    unfold H.assumeB
    simp only
    split
    · exact f1
    · rename_i i
      split
      · rename_i j op x y e
        have hm := List.mem_of_find?_eq_some e
        have hi : j = i := by simpa using List.find?_some e
        have hd := f.defs _ hm
        simp only [IOp.den] at hd
        rw [hi] at hd
        split
        · rename_i hc
          refine assume_facts f1 ?_
          simp only [At.den_v] at hb
          rw [hd] at hb
          cases hcmp : cmpB op (At.den ρ.is x) (At.den ρ.is y) <;> rw [hcmp] at hb <;> subst hb <;> simp [b2i, negOp_ok hc, hcmp]
        · exact f1
      · rename_i j x e
        have hm := List.mem_of_find?_eq_some e
        have hi : j = i := by simpa using List.find?_some e
        have hd := f.defs _ hm
        simp only [IOp.den] at hd
        rw [hi] at hd
        refine assumeB_facts n f1 ?_
        simp only [At.den_v] at hb
        rw [hd] at hb
        subst hb
        cases hz : (At.den ρ.is x == 0) <;> simp_all [b2i]
      · rename_i j c x y e
        have hm := List.mem_of_find?_eq_some e
        have hi : j = i := by simpa using List.find?_some e
        have hd := f.defs _ hm
        simp only [IOp.den] at hd
        rw [hi] at hd
        simp only [At.den_v] at hb
        rw [hd] at hb
        split
        · rename_i hbt
          subst hbt
          split
          · rename_i hy
            subst hy
            simp only [At.den_c] at hb
            have hc : c.den ρ.is ≠ 0 := by intro h0; simp [h0] at hb
            have hx : x.den ρ.is ≠ 0 := by simpa [hc] using hb
            exact assumeB_facts n (assumeB_facts n f1 (by simpa using hc)) (by simpa using hx)
          · exact f1
        · rename_i hbt
          have hbf : b = false := by cases b <;> simp_all
          subst hbf
          split
          · rename_i hx
            subst hx
            simp only [At.den_c] at hb
            have hc : c.den ρ.is = 0 := by
              rcases Int.decEq (c.den ρ.is) 0 with h0 | h0
              · simp [h0] at hb
              · exact h0
            have hy : y.den ρ.is = 0 := by simpa [hc] using hb
            exact assumeB_facts n (assumeB_facts n f1 (by simpa using hc)) (by simpa using hy)
          · exact f1
      · exact f1
theorem assumeB_same : ∀ (n : Nat) (h : H) (a : At) (b : Bool), (h.assumeB a b n).hp = h.hp ∧ (h.assumeB a b n).ni = h.ni ∧ (h.assumeB a b n).nl = h.nl ∧ (h.assumeB a b n).nb = h.nb
  | 0, h, a, b => ⟨rfl, rfl, rfl, rfl⟩
  | n + 1, h, a, b => by
    unfold H.assumeB
    simp only
    split
    · simp
    · split
      · split <;> simp
      · rename_i i _ _ x _
        have := assumeB_same n (h.assume (if b then .neq else .eql) (.v i) (.c 0)) x (!b)
        simp only [assume_hp, assume_ni, assume_nl, assume_nb] at this
        exact this
      · rename_i i _ _ c x y _
        have two : ∀ (b1 b2 : Bool) (p q : At), (((h.assume (if b then .neq else .eql) (.v i) (.c 0)).assumeB p b1 n).assumeB q b2 n).hp = h.hp ∧ (((h.assume (if b then .neq else .eql) (.v i) (.c 0)).assumeB p b1 n).assumeB q b2 n).ni = h.ni ∧
            (((h.assume (if b then .neq else .eql) (.v i) (.c 0)).assumeB p b1 n).assumeB q b2 n).nl = h.nl ∧ (((h.assume (if b then .neq else .eql) (.v i) (.c 0)).assumeB p b1 n).assumeB q b2 n).nb = h.nb := by
          intro b1 b2 p q
          have t1 := assumeB_same n (h.assume (if b then .neq else .eql) (.v i) (.c 0)) p b1
          have t2 := assumeB_same n ((h.assume (if b then .neq else .eql) (.v i) (.c 0)).assumeB p b1 n) q b2
          simp only [assume_hp, assume_ni, assume_nl, assume_nb] at t1
          exact ⟨t2.1.trans t1.1, t2.2.1.trans t1.2.1, t2.2.2.1.trans t1.2.2.1, t2.2.2.2.trans t1.2.2.2⟩
        have one : (h.assume (if b then .neq else .eql) (.v i) (.c 0)).hp = h.hp ∧ (h.assume (if b then .neq else .eql) (.v i) (.c 0)).ni = h.ni ∧
            (h.assume (if b then .neq else .eql) (.v i) (.c 0)).nl = h.nl ∧ (h.assume (if b then .neq else .eql) (.v i) (.c 0)).nb = h.nb := ⟨assume_hp .., assume_ni .., assume_nl .., assume_nb ..⟩
        generalize (h.assume (if b then .neq else .eql) (.v i) (.c 0)) = g at two one ⊢
        (repeat' split) <;> first
          | exact two _ _ _ _
          | exact one
      · simp

theorem RepH.alt {C : Ctx} {ρ : Env} {h h' : H} {w : World} (r : RepH C ρ h w) (e : h'.ni = h.ni ∧ h'.nl = h.nl ∧ h'.nb = h.nb) (f : ∀ σ, Facts C (ρ.app σ) h' w) : RepH C ρ h' w :=
  ⟨r.ni.trans e.1.symm, r.nl.trans e.2.1.symm, r.nb.trans e.2.2.symm, f, r.frame⟩

/-- A demand: Go would panic otherwise, or the executor could not go on. -/
def holdsSame (op : BinOp) : Bool :=
  match op with
  | .eql | .leq | .geq => true
  | _ => false
def need (op : BinOp) (a b : At) : M Unit := fun h k =>
  if sameAt a b && holdsSame op then k () h else
  match cmpR op (h.range a) (h.range b) with
  | some true => k () h
  | some false => .fail 1
  | none => .need op a b (k () (h.assume op a b))
theorem holdsSame_ok {op : BinOp} {a b : At} (h : (sameAt a b && holdsSame op) = true) (is : List Int) : cmpB op (a.den is) (b.den is) = true := by
  simp only [Bool.and_eq_true] at h
  have e : a = b := of_decide_eq_true h.1
  subst e
  cases op <;> simp_all [holdsSame, cmpB]

section
variable {Φ : Phi} {C : Ctx} {ρ : Env} {h : H} {w : World}
theorem need_spec {op : BinOp} {a b : At} {x y : Int} (ha : AtIs ρ a x) (hb : AtIs ρ b y) :
    MSpec Φ C (need op a b) ρ h w fun _ ρ' h' w' => w' = w ∧ h'.hp = h.hp ∧ cmpB op x y = true := by
  intro hh k hk
  unfold need at hk
  have f0 := hh.facts .nil
  rw [Env.app_nil] at f0
  split at hk
  · rename_i e
    have := holdsSame_ok e ρ.is
    rw [ha.val, hb.val] at this
    exact ⟨(), ρ, h, w, Env.le_refl ρ, hh, hk, rfl, rfl, this⟩
  split at hk
  · rename_i e
    have := cmpR_ok (range_ok f0 a) (range_ok f0 b) e
    rw [ha.val, hb.val] at this
    exact ⟨(), ρ, h, w, Env.le_refl ρ, hh, hk, rfl, rfl, this⟩
  · exact hk.elim
  · simp only [Tree.den] at hk
    have hc := hk.1
    rw [ha.val, hb.val] at hc
    exact ⟨(), ρ, _, w, Env.le_refl ρ, hh.alt (by simp) (fun σ => assume_facts (hh.facts σ) (by rw [ha.app σ, hb.app σ]; exact hc)), hk.2, rfl, by simp, hc⟩

@[simp] theorem setR_lrng (h : H) (a : At) (r : Int × Int) : (h.setR a r).lrng = h.lrng := by cases a <;> rfl
@[simp] theorem assume_lrng (h : H) (op : BinOp) (a b : At) : (h.assume op a b).lrng = h.lrng := by
  unfold H.assume; repeat' split
  all_goals simp
theorem need_spec' {op : BinOp} {a b : At} {x y : Int} (ha : AtIs ρ a x) (hb : AtIs ρ b y) :
    MSpec Φ C (need op a b) ρ h w fun _ ρ' h' w' => w' = w ∧ h'.hp = h.hp ∧ h'.lrng = h.lrng ∧ ρ' = ρ ∧ cmpB op x y = true := by
  intro hh k hk
  unfold need at hk
  have f0 := hh.facts .nil
  rw [Env.app_nil] at f0
  split at hk
  · rename_i e
    have := holdsSame_ok e ρ.is
    rw [ha.val, hb.val] at this
    exact ⟨(), ρ, h, w, Env.le_refl ρ, hh, hk, rfl, rfl, rfl, rfl, this⟩
  split at hk
  · rename_i e
    have := cmpR_ok (range_ok f0 a) (range_ok f0 b) e
    rw [ha.val, hb.val] at this
    exact ⟨(), ρ, h, w, Env.le_refl ρ, hh, hk, rfl, rfl, rfl, rfl, this⟩
  · exact hk.elim
  · simp only [Tree.den] at hk
    have hc := hk.1
    rw [ha.val, hb.val] at hc
    exact ⟨(), ρ, _, w, Env.le_refl ρ, hh.alt (by simp) (fun σ => assume_facts (hh.facts σ) (by rw [ha.app σ, hb.app σ]; exact hc)), hk.2, rfl, by simp, by simp, rfl, hc⟩
/-- A test. -/
def dec (a : At) : M Bool := fun h k =>
  match cmpR .eql (h.range a) (some (0, 0)) with
  | some b => k (!b) h
  | none => .ite a (k true (h.assumeB a true 12)) (k false (h.assumeB a false 12))
theorem dec_spec {a : At} {x : Int} (ha : AtIs ρ a x) : MSpec Φ C (dec a) ρ h w fun b ρ' h' w' => w' = w ∧ h'.hp = h.hp ∧ (x != 0) = b := by
  intro hh k hk
  unfold dec at hk
  have f0 := hh.facts .nil
  rw [Env.app_nil] at f0
  split at hk
  · rename_i b e
    have := cmpR_ok (y := 0) (range_ok f0 a) (by simp [inR]) e
    rw [ha.val] at this
    refine ⟨!b, ρ, h, w, Env.le_refl ρ, hh, hk, rfl, rfl, ?_⟩
    rw [← this]; rfl
  · simp only [Tree.den] at hk
    rw [ha.val] at hk
    by_cases hx : x = 0
    · have s := assumeB_same 12 h a false
      exact ⟨false, ρ, _, w, Env.le_refl ρ, hh.alt s.2 (fun σ => assumeB_facts 12 (hh.facts σ) (by rw [ha.app σ]; simp [hx])), hk.2 hx, rfl, s.1, by simp [hx]⟩
    · have s := assumeB_same 12 h a true
      exact ⟨true, ρ, _, w, Env.le_refl ρ, hh.alt s.2 (fun σ => assumeB_facts 12 (hh.facts σ) (by rw [ha.app σ]; simp [hx])), hk.1 hx, rfl, s.1, by simp [hx]⟩

/-- Any number of a range. -/
def H.pushA (h : H) (lo hi : At) : H := { h with ni := h.ni + 1, rng := (match h.range lo, h.range hi with | some (l, _), some (_, u) => (h.ni, l, u) :: h.rng | _, _ => h.rng) }
def anyI (lo hi : At) : M At := fun h k => .any lo hi (k (.v h.ni) (h.pushA lo hi))
theorem anyI_spec {lo hi : At} {a b x : Int} (ha : AtIs ρ lo a) (hb : AtIs ρ hi b) (h1 : a ≤ x) (h2 : x ≤ b) : MSpec Φ C (anyI lo hi) ρ h w fun c ρ' h' w' => w' = w ∧ h'.hp = h.hp ∧ AtIs ρ' c x := by
  intro hh k hk
  simp only [anyI, Tree.den] at hk
  have hk' := hk x (by rw [ha.val]; exact h1) (by rw [hb.val]; exact h2)
  have hat : AtIs (ρ.pushI x) (.v h.ni) x := by rw [← hh.ni]; exact pushI_at ρ x
  refine ⟨.v h.ni, ρ.pushI x, h.pushA lo hi, w, Env.le_app _ _, ?_, ?_, rfl, rfl, hat⟩
  rotate_left
  · have e1 : (ρ.pushI x).is = ρ.is ++ [x] := rfl
    have e2 : (ρ.pushI x).ls = ρ.ls := by simp [Env.pushI, Env.app]
    rw [e1, e2]; exact hk'
  · refine ⟨by simp [Env.pushI, Env.app, hh.ni, H.pushA], by simp [Env.pushI, Env.app, hh.nl, H.pushA], by simp [Env.pushI, Env.app, hh.nb, H.pushA], fun σ => ?_, hh.frame⟩
    have f := hh.facts ((⟨[x], [], []⟩ : Env).app σ)
    rw [← Env.app_assoc] at f
    refine ⟨f.heap, f.nodup, fun q hq => ?_, f.defs, f.lrng⟩
    simp only [H.pushA] at hq
    split at hq
    · rename_i l l' u' u e1 e2
      rcases List.mem_cons.1 hq with rfl | hq
      · have g1 := range_ok f lo
        have g2 := range_ok f hi
        rw [e1] at g1; rw [e2] at g2
        have k1 : lo.den ((ρ.app ⟨[x], [], []⟩).app σ).is = a := (ha.mono (Env.le_app ρ _)).app σ
        have k2 : hi.den ((ρ.app ⟨[x], [], []⟩).app σ).is = b := (hb.mono (Env.le_app ρ _)).app σ
        simp only [inR] at g1 g2
        rw [k1] at g1; rw [k2] at g2
        have k3 : ((ρ.pushI x).app σ).is.getD h.ni 0 = x := hat.app σ
        simp only [k3]
        exact ⟨Int.le_trans g1.1 h1, Int.le_trans h2 g2.2⟩
      · exact f.rng q hq
    · exact f.rng q hq

/-- A new list. -/
def inside (r s : Rng) : Bool :=
  match r, s with
  | some (l1, u1), some (l2, u2) => decide (l2 ≤ l1) && decide (u1 ≤ u2)
  | _, _ => false
theorem inside_ok {x : Int} {r s : Rng} (h : inside r s = true) (hx : inR x r) : inR x s := by
  unfold inside at h
  split at h
  · simp only [Bool.and_eq_true, decide_eq_true_eq] at h
    simp only [inR] at *
    omega
  · cases h
/-- A range that has all of these. -/
def H.hull (h : H) : List At → Rng
  | [] => some (0, 0)
  | [a] => h.range a
  | a :: as => match h.range a, h.hull as with
    | some (l1, u1), some (l2, u2) => some (imin l1 l2, imax u1 u2)
    | _, _ => none
theorem hull_ok {C : Ctx} {ρ : Env} {h : H} {w : World} (f : Facts C ρ h w) : ∀ (xs : List At), ∀ a ∈ xs, inR (a.den ρ.is) (h.hull xs)
  | [], a, ha => by cases ha
  | [b], a, ha => by
    obtain rfl := List.mem_singleton.1 ha
    exact range_ok f a
  | b :: c :: as, a, ha => by
    unfold H.hull
    split
    · rename_i l1 u1 l2 u2 e1 e2
      have mn : ∀ x y z : Int, (x ≤ z ∨ y ≤ z) → imin x y ≤ z := fun x y z h => by unfold imin; split <;> omega
      have mx : ∀ x y z : Int, (z ≤ x ∨ z ≤ y) → z ≤ imax x y := fun x y z h => by unfold imax; split <;> omega
      rcases List.mem_cons.1 ha with rfl | ha
      · have := range_ok f a
        rw [e1] at this
        simp only [inR] at *
        exact ⟨mn _ _ _ (.inl this.1), mx _ _ _ (.inl this.2)⟩
      · have := hull_ok f (c :: as) a ha
        rw [e2] at this
        simp only [inR] at *
        exact ⟨mn _ _ _ (.inr this.1), mx _ _ _ (.inr this.2)⟩
    · trivial
/-- Is every number of the new list in the old one's range? -/
def H.lrangeOf (h : H) : LOp → Rng
  | .set l _ v => if inside (h.range v) (h.lrange l) then h.lrange l else none
  | .rep _ v => h.range v
  | .push l v => if inside (h.range v) (h.lrange l) then h.lrange l else none
  | .take l _ => h.lrange l
  | .drop l _ => h.lrange l
  | .lit xs => h.hull xs
  | .app l m => if inside (h.lrange m) (h.lrange l) then h.lrange l else none
  | .put l _ m => if inside (h.lrange m) (h.lrange l) then h.lrange l else none
theorem mem_set_or {l : List Int} {i : Nat} {v x : Int} (h : x ∈ l.set i v) : x ∈ l ∨ x = v := by
  rcases List.mem_or_eq_of_mem_set h with h | h
  · exact .inl h
  · exact .inr h
theorem lrangeOf_ok {C : Ctx} {ρ : Env} {h : H} {w : World} (f : Facts C ρ h w) (o : LOp) : ∀ x ∈ o.den ρ.is ρ.ls, inR x (h.lrangeOf o) := by
  intro x hx
  cases o with
  | set l i v =>
    simp only [H.lrangeOf]
    split
    · rename_i hc
      rcases mem_set_or hx with hx | hx
      · exact lrange_ok f l x hx
      · rw [hx]; exact inside_ok hc (range_ok f v)
    · trivial
  | rep n v =>
    simp only [LOp.den, List.mem_replicate] at hx
    rw [hx.2]; exact range_ok f v
  | push l v =>
    simp only [H.lrangeOf]
    split
    · rename_i hc
      simp only [LOp.den, List.mem_append, List.mem_singleton] at hx
      rcases hx with hx | hx
      · exact lrange_ok f l x hx
      · rw [hx]; exact inside_ok hc (range_ok f v)
    · trivial
  | take l n => exact lrange_ok f l x (List.mem_of_mem_take hx)
  | drop l n => exact lrange_ok f l x (List.mem_of_mem_drop hx)
  | lit xs =>
    simp only [LOp.den, List.mem_map] at hx
    obtain ⟨a, ha, rfl⟩ := hx
    exact hull_ok f xs a ha
  | app l m =>
    simp only [H.lrangeOf]
    split
    · rename_i hc
      simp only [LOp.den, List.mem_append] at hx
      rcases hx with hx | hx
      · exact lrange_ok f l x hx
      · exact inside_ok hc (lrange_ok f m x hx)
    · trivial
  | put l n m =>
    simp only [H.lrangeOf]
    split
    · rename_i hc
      simp only [LOp.den, putL, List.mem_append] at hx
      rcases hx with (hx | hx) | hx
      · exact lrange_ok f l x (List.mem_of_mem_take hx)
      · exact inside_ok hc (lrange_ok f m x hx)
      · exact lrange_ok f l x (List.mem_of_mem_drop hx)
    · trivial
def H.pushL (h : H) (o : LOp) : H :=
  { h with nl := h.nl + 1, lrng := (match h.lrangeOf o with | some r => (h.nl, r) :: h.lrng | none => h.lrng) }
def mkL (o : LOp) : M Nat := fun h k => .letL o (k h.nl (h.pushL o))
def LIs (ρ : Env) (l : Nat) (xs : List Int) : Prop := l < ρ.ls.length ∧ ρ.ls.getD l [] = xs
def LOpIs (ρ : Env) (o : LOp) (xs : List Int) : Prop := ∀ σ : Env, o.den (ρ.app σ).is (ρ.app σ).ls = xs
theorem LIs.mono {ρ ρ' : Env} {l : Nat} {xs : List Int} (h : LIs ρ l xs) (le : ρ.le ρ') : LIs ρ' l xs := by
  refine ⟨by have := (Env.le_len le).2.1; have := h.1; omega, ?_⟩
  obtain ⟨τ, rfl⟩ := le
  rw [← h.2]; exact getD_app h.1
theorem LIs.app {ρ : Env} {l : Nat} {xs : List Int} (h : LIs ρ l xs) (σ : Env) : (ρ.app σ).ls.getD l [] = xs := (h.mono (Env.le_app ρ σ)).2
theorem LIs.val {ρ : Env} {l : Nat} {xs : List Int} (h : LIs ρ l xs) : ρ.ls.getD l [] = xs := h.2
theorem LOpIs.val {ρ : Env} {o : LOp} {xs : List Int} (h : LOpIs ρ o xs) : o.den ρ.is ρ.ls = xs := by have := h .nil; rwa [Env.app_nil] at this
def Env.pushL (ρ : Env) (x : List Int) : Env := ρ.app ⟨[], [x], []⟩
theorem pushL_at (ρ : Env) (x : List Int) : LIs (ρ.pushL x) ρ.ls.length x := by
  simp [LIs, Env.pushL, Env.app]
theorem RepH.pushL {C : Ctx} {ρ : Env} {h : H} {w : World} (r : RepH C ρ h w) {o : LOp} {x : List Int} (hx : LOpIs ρ o x) : RepH C (ρ.pushL x) (h.pushL o) w := by
  refine ⟨by simp [Env.pushL, Env.app, H.pushL, r.ni], by simp [Env.pushL, Env.app, H.pushL, r.nl], by simp [Env.pushL, Env.app, H.pushL, r.nb], fun σ => ?_, r.frame⟩
  have f := r.facts ((⟨[], [x], []⟩ : Env).app σ)
  rw [← Env.app_assoc] at f
  have hat : ((ρ.pushL x).app σ).ls.getD h.nl [] = x := by rw [← r.nl]; exact (pushL_at ρ x).app σ
  have hop : o.den ((ρ.pushL x).app σ).is ((ρ.pushL x).app σ).ls = x := by
    have := hx ((⟨[], [x], []⟩ : Env).app σ)
    rwa [← Env.app_assoc] at this
  refine ⟨f.heap, f.nodup, f.rng, f.defs, fun q hq => ?_⟩
  simp only [H.pushL] at hq
  split at hq
  · rename_i rr er
    rcases List.mem_cons.1 hq with rfl | hq
    · simp only
      have g := lrangeOf_ok f o
      rw [er] at g
      have hop' : o.den ((ρ.app ⟨[], [x], []⟩).app σ).is ((ρ.app ⟨[], [x], []⟩).app σ).ls = x := hop
      rw [hop'] at g
      rw [hat]
      exact g
    · exact f.lrng q hq
  · exact f.lrng q hq
theorem mkL_spec {o : LOp} {xs : List Int} (hx : LOpIs ρ o xs) : MSpec Φ C (mkL o) ρ h w fun l ρ' h' w' => w' = w ∧ h'.hp = h.hp ∧ LIs ρ' l xs := by
  intro hh k hk
  simp only [mkL, Tree.den] at hk
  have hk' := hk xs hx.val.symm
  refine ⟨h.nl, ρ.pushL xs, _, w, Env.le_app _ _, hh.pushL hx, ?_, rfl, rfl, ?_⟩
  · simpa [Env.pushL, Env.app] using hk'
  · rw [← hh.nl]; exact pushL_at ρ xs
end

end Go.Sx
