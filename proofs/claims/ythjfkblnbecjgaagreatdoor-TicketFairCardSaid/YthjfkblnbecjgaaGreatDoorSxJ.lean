/- Equality, conversions, aggregates, addresses. -/
import Derived.Test.YthjfkblnbecjgaaGreatDoorSxI
import Derived.Laws.Slices
import Derived.Laws.Build
import Derived.Laws.Pointers
import Derived.WideLaws
set_option linter.unusedVariables false
namespace Go.Sx
section
variable {Φ : Phi} {C : Ctx} {ρ : Env} {h : H} {w : World} {P : Program}

/-! ### Equality -/
abbrev EqF := TypeId → SV → SV → M At
def eqFieldsM (P : Program) (F : EqF) (xs ys : List SV) : List Field → M At
  | [] => pure (.c 1)
  | f :: fs =>
    if f.name ≠ "_" then (match isAggT P f.type, xs[f.offset]?, ys[f.offset]? with
      | some false, some x, some y => do
        let c ← F f.type x y
        let r ← eqFieldsM P F xs ys fs
        mkI (.pick c r (.c 0))
      | some true, _, _ => (match sizeT P f.type with
        | some s => do
          let c ← F f.type (.agg ((xs.drop f.offset).take s)) (.agg ((ys.drop f.offset).take s))
          let r ← eqFieldsM P F xs ys fs
          mkI (.pick c r (.c 0))
        | none => M.no 48)
      | _, _, _ => M.no 49)
    else eqFieldsM P F xs ys fs
def eqArrM (P : Program) (F : EqF) (xs ys : List SV) (e : TypeId) (s : Nat) : Nat → Nat → M At
  | _, 0 => pure (.c 1)
  | i, n + 1 => (match isAggT P e, xs[i * s]?, ys[i * s]? with
    | some false, some x, some y => do
      let c ← F e x y
      let r ← eqArrM P F xs ys e s (i + 1) n
      mkI (.pick c r (.c 0))
    | some true, _, _ => do
      let c ← F e (.agg ((xs.drop (i * s)).take s)) (.agg ((ys.drop (i * s)).take s))
      let r ← eqArrM P F xs ys e s (i + 1) n
      mkI (.pick c r (.c 0))
    | _, _, _ => M.no 50)
/-- Equality of two values as a number 0 or 1. -/
def eqCells (P : Program) : Nat → EqF
  | 0, _, _, _ => M.no 40
  | d + 1, t, x, y =>
    match x, y with
    | .i k a, .i k' b => (match P.underlying t with
      | some (.int _) => if k = k' then mkI (.cmp .eql a b) else M.no 41
      | _ => M.no 42)
    | .b a, .b b => (match P.underlying t with
      | some .bool => do
        let na ← mkI (.not a)
        let nb ← mkI (.not b)
        mkI (.cmp .eql na nb)
      | _ => M.no 43)
    | .agg xs, .agg ys => (match P.underlying t with
      | some (.struct fs) => if P.stoodInHeld t then M.no 44 else eqFieldsM P (eqCells P d) xs ys fs.toList
      | some (.array n e) => (match sizeT P e with
        | some s => eqArrM P (eqCells P d) xs ys e s 0 n
        | none => M.no 46)
      | _ => M.no 45)
    | _, _ => M.no 47

def Eqs (P : Program) (w : World) (h : H) (s : Sem Bool) : At → Env → H → World → Prop := fun a ρ' h' w' => w' = w ∧ h'.hp = h.hp ∧ ∃ b, AtIs ρ' a (b2i b) ∧ ∀ W : World, s.run P W = .ok b W

theorem SvIs.agg {ρ : Env} {xs : List SV} {v : Value} (h : SvIs ρ (.agg xs) v) : SV.oks ρ.is.length ρ.bs.length xs = true ∧ v = .agg (SV.dens ρ xs).toArray :=
  ⟨by have := h.1; rwa [SV.ok] at this, by rw [← h.2, SV.den]⟩
theorem oks_get' {ρ : Env} {xs : List SV} {j : Nat} {x : SV} (h : SV.oks ρ.is.length ρ.bs.length xs = true) (e : xs[j]? = some x) : SvIs ρ x (SV.den ρ x) := (oks_get h e).1
theorem dens_get {ρ : Env} {xs : List SV} {j : Nat} {x : SV} (e : xs[j]? = some x) : (SV.dens ρ xs)[j]? = some (SV.den ρ x) := by
  rw [SV.dens_eq, List.getElem?_map, e]; rfl
theorem oks_append {ni nb : Nat} : ∀ {xs ys : List SV}, SV.oks ni nb xs = true → SV.oks ni nb ys = true → SV.oks ni nb (xs ++ ys) = true
  | [], _, _, h => h
  | x :: xs, ys, h1, h2 => by
    simp only [SV.oks, List.cons_append, Bool.and_eq_true] at *
    exact ⟨h1.1, oks_append h1.2 h2⟩
theorem dens_append {ρ : Env} (xs ys : List SV) : SV.dens ρ (xs ++ ys) = SV.dens ρ xs ++ SV.dens ρ ys := by simp [SV.dens_eq]

theorem oks_part {ni nb : Nat} : ∀ {xs : List SV} (a b : Nat), SV.oks ni nb xs = true → SV.oks ni nb ((xs.drop a).take b) = true
  | [], a, b, _ => by simp [SV.oks]
  | x :: xs, 0, 0, _ => rfl
  | x :: xs, 0, b + 1, h => by
    simp only [SV.oks, Bool.and_eq_true, List.drop_zero, List.take_succ_cons] at *
    exact ⟨h.1, by simpa using oks_part 0 b h.2⟩
  | x :: xs, a + 1, b, h => by
    simp only [SV.oks, Bool.and_eq_true, List.drop_succ_cons] at *
    exact oks_part a b h.2
theorem dens_part {ρ : Env} (xs : List SV) (a b : Nat) : SV.dens ρ ((xs.drop a).take b) = ((SV.dens ρ xs).drop a).take b := by
  simp [SV.dens_eq, List.map_take, List.map_drop]
theorem extract_toArray (l : List Value) (a b : Nat) : (l.toArray.extract a (a + b)).toList = (l.drop a).take b := by
  simp
theorem run_part_one {t : TypeId} (e : isAggT P t = some false) {l : List Value} {o : Nat} {v : Value} (hv : l[o]? = some v) (w : World) : (part t l.toArray o).run P w = .ok v w := by
  simp [part, run_isAgg e, hv]
theorem run_part_agg {t : TypeId} {s : Nat} (e : isAggT P t = some true) (es : sizeT P t = some s) (l : List Value) (o : Nat) (w : World) :
    (part t l.toArray o).run P w = .ok (.agg ((l.drop o).take s).toArray) w := by
  simp [part, run_isAgg e, run_sizeOf' es]

theorem pick_spec {a b c : At} {p : Bool} {x y : Int} (hc : AtIs ρ c (b2i p)) (ha : AtIs ρ a x) (hb : AtIs ρ b y) :
    MSpec Φ C (mkI (.pick c a b)) ρ h w fun r ρ' h' w' => w' = w ∧ h'.hp = h.hp ∧ AtIs ρ' r (if p then x else y) := by
  refine (mkI_ok (okB3 hc.1 ha.1 hb.1 (.pick c a b) rfl rfl)).mono ?_
  rintro r ρ' h' w' l ⟨rfl, hp, hr⟩
  refine ⟨rfl, hp, ?_⟩
  simp only [IOp.den, hc.val, ha.val, hb.val] at hr
  cases p <;> simpa [b2i] using hr
theorem cmp_spec {op : BinOp} {a b : At} {x y : Int} (ha : AtIs ρ a x) (hb : AtIs ρ b y) :
    MSpec Φ C (mkI (.cmp op a b)) ρ h w fun r ρ' h' w' => w' = w ∧ h'.hp = h.hp ∧ AtIs ρ' r (b2i (cmpB op x y)) := by
  refine (mkI_ok (okB2 ha.1 hb.1 (.cmp op a b) rfl rfl)).mono ?_
  rintro r ρ' h' w' l ⟨rfl, hp, hr⟩
  simp only [IOp.den, ha.val, hb.val] at hr
  exact ⟨rfl, hp, hr⟩
theorem not_spec {a : At} {x : Int} (ha : AtIs ρ a x) : MSpec Φ C (mkI (.not a)) ρ h w fun r ρ' h' w' => w' = w ∧ h'.hp = h.hp ∧ AtIs ρ' r (b2i (x == 0)) := by
  refine (mkI_ok (okB1 ha.1 (.not a) rfl rfl)).mono ?_
  rintro r ρ' h' w' l ⟨rfl, hp, hr⟩
  simp only [IOp.den, ha.val] at hr
  exact ⟨rfl, hp, hr⟩

theorem eqCells_spec : ∀ (d : Nat) {ρ : Env} {h : H} {t : TypeId} {x y : SV} {u v : Value}, SvIs ρ x u → SvIs ρ y v →
    MSpec Φ C (eqCells P d t x y) ρ h w (Eqs P w h (Op.equalIn d t u v))
  | 0, _, _, _, _, _, _, _, _, _ => MSpec.no
  | d + 1, ρ, h, t, x, y, u, v, hx, hy => by
    have IH := @eqCells_spec d
    unfold eqCells
    split
    · rename_i k a k' b
      obtain ⟨ha, rfl⟩ := hx.int
      obtain ⟨hb, rfl⟩ := hy.int
      split
      · rename_i kk eu
        split
        · rename_i ek
          subst ek
          refine (cmp_spec ha hb).mono ?_
          rintro r ρ' h' w' l ⟨rfl, hp, hr⟩
          exact ⟨rfl, hp, _, hr, fun W => by rw [run_equalIn_int _ _ _ _ _ _ _ eu]; rfl⟩
        · exact MSpec.no
      · exact MSpec.no
    · rename_i a b
      obtain ⟨ha, rfl⟩ := hx.bool
      obtain ⟨hb, rfl⟩ := hy.bool
      split
      · rename_i eu
        refine (not_spec ha).bind ?_
        rintro na ρ1 h1 w1 l1 ⟨rfl, hp1, hna⟩
        refine (not_spec (hb.mono l1)).bind ?_
        rintro nb ρ2 h2 w2 l2 ⟨rfl, hp2, hnb⟩
        refine (cmp_spec (hna.mono l2) hnb).mono ?_
        rintro r ρ3 h3 w3 l3 ⟨rfl, hp3, hr⟩
        refine ⟨rfl, by rw [hp3, hp2, hp1], _, hr, fun W => ?_⟩
        rw [run_equalIn_bool _ _ _ _ _ eu]
        congr 1
        generalize At.den ρ.is a = p
        generalize At.den ρ.is b = q
        cases hp : (p == 0) <;> cases hq : (q == 0) <;> simp [bne, hp, hq, cmpB, b2i]
      · exact MSpec.no
    · rename_i xs ys
      obtain ⟨hxs, rfl⟩ := hx.agg
      obtain ⟨hys, rfl⟩ := hy.agg
      split
      · rename_i fs eu
        split
        · exact MSpec.no
        · rename_i hsi
          have hfo : P.fieldsOf t = fs := by simp [Program.fieldsOf, eu]
          have hrun := fun W : World => run_equalIn_struct (P := P) W d t (SV.dens ρ xs).toArray (SV.dens ρ ys).toArray (by rw [hfo]; exact eu) (by simpa using hsi)
          simp only [hfo] at hrun
          have key : ∀ (l : List Field) {ρ1 : Env} {h1 : H}, ρ.le ρ1 → MSpec Φ C (eqFieldsM P (eqCells P d) xs ys l) ρ1 h1 w (Eqs P w h1 (Op.eqFields d (SV.dens ρ xs).toArray (SV.dens ρ ys).toArray l)) := by
            intro l
            induction l with
            | nil =>
              intro ρ1 h1 l1
              exact MSpec.ret ⟨rfl, rfl, true, AtIs.c _ 1, fun _ => rfl⟩
            | cons f l ihl =>
              intro ρ1 h1 l1
              have dx : SV.dens ρ1 xs = SV.dens ρ xs := by obtain ⟨τ, rfl⟩ := l1; exact SV.dens_app xs hxs
              have dy : SV.dens ρ1 ys = SV.dens ρ ys := by obtain ⟨τ, rfl⟩ := l1; exact SV.dens_app ys hys
              have ox : SV.oks ρ1.is.length ρ1.bs.length xs = true := SV.oks_mono (Env.le_len l1).1 (Env.le_len l1).2.2 xs hxs
              have oy : SV.oks ρ1.is.length ρ1.bs.length ys = true := SV.oks_mono (Env.le_len l1).1 (Env.le_len l1).2.2 ys hys
              unfold eqFieldsM
              split
              · rename_i hn
                have fin : ∀ (cm : M At) (p q : Value), (∀ W : World, (part f.type (SV.dens ρ xs).toArray f.offset).run P W = .ok p W) → (∀ W : World, (part f.type (SV.dens ρ ys).toArray f.offset).run P W = .ok q W) →
                    MSpec Φ C cm ρ1 h1 w (Eqs P w h1 (Op.equalIn d f.type p q)) →
                    MSpec Φ C (do let c ← cm; let r ← eqFieldsM P (eqCells P d) xs ys l; mkI (.pick c r (.c 0)) : M At) ρ1 h1 w (Eqs P w h1 (Op.eqFields d (SV.dens ρ xs).toArray (SV.dens ρ ys).toArray (f :: l))) := by
                  intro cm p q hp hq hcm
                  refine hcm.bind ?_
                  rintro c ρ2 h2 w2 l2 ⟨rfl, hp2, b, hb, hrb⟩
                  refine (ihl (Env.le_trans l1 l2)).bind ?_
                  rintro r ρ3 h3 w3 l3 ⟨rfl, hp3, b', hb', hrb'⟩
                  refine (pick_spec (hb.mono l3) hb' (AtIs.c _ 0)).mono ?_
                  rintro z ρ4 h4 w4 l4 ⟨rfl, hp4, hz⟩
                  refine ⟨rfl, by rw [hp4, hp3, hp2], b && b', ?_, ?_⟩
                  · cases b <;> simpa [b2i] using hz
                  · intro W
                    simp only [Op.eqFields, hn, Sem.run_bind, hp, hq, hrb, Result.andThen_ok, if_true, ne_eq, not_false_eq_true, Sem.run_ite, Sem.run_pure]
                    cases b
                    · simp
                    · simpa using hrb' W
                split
                · rename_i p q e1 e2 e3
                  exact fin _ _ _ (fun W => run_part_one e1 (dens_get e2) W) (fun W => run_part_one e1 (dens_get e3) W)
                    (IH (by have := oks_get' ox e2; rwa [show SV.den ρ1 p = SV.den ρ p by obtain ⟨τ, rfl⟩ := l1; exact SV.den_app p (oks_get' hxs e2).1] at this)
                      (by have := oks_get' oy e3; rwa [show SV.den ρ1 q = SV.den ρ q by obtain ⟨τ, rfl⟩ := l1; exact SV.den_app q (oks_get' hys e3).1] at this))
                · rename_i e1
                  split
                  · rename_i s es
                    exact fin _ _ _ (fun W => run_part_agg e1 es _ _ W) (fun W => run_part_agg e1 es _ _ W)
                      (IH ⟨by rw [SV.ok]; exact oks_part _ _ ox, by rw [SV.den, dens_part, dx]⟩ ⟨by rw [SV.ok]; exact oks_part _ _ oy, by rw [SV.den, dens_part, dy]⟩)
                  · exact MSpec.no
                · exact MSpec.no
              · rename_i hn
                refine (ihl l1).mono ?_
                rintro r ρ' h' w' _ ⟨e1, e2, b, hb, hr⟩
                exact ⟨e1, e2, b, hb, fun W => by simp only [Op.eqFields, hn, if_false]; exact hr W⟩
          refine (key fs.toList (Env.le_refl ρ)).mono ?_
          rintro r ρ' h' w' _ ⟨e1, e2, b, hb, hr⟩
          exact ⟨e1, e2, b, hb, fun W => by rw [hrun]; exact hr W⟩
      · rename_i n e eu
        split
        · rename_i s es
          have body : ∀ (n i : Nat) {ρ1 : Env} {h1 : H}, ρ.le ρ1 → MSpec Φ C (eqArrM P (eqCells P d) xs ys e s i n) ρ1 h1 w (Eqs P w h1 (do
              for j in List.range' i n 1 do
                if !(← Op.equalIn d e (← part e (SV.dens ρ xs).toArray (j * s)) (← part e (SV.dens ρ ys).toArray (j * s))) then return false
              pure true)) := by
            intro n
            induction n with
            | zero =>
              intro i ρ1 h1 l1
              exact MSpec.ret ⟨rfl, rfl, true, AtIs.c _ 1, fun _ => by simp⟩
            | succ n ihn =>
              intro i ρ1 h1 l1
              have dx : SV.dens ρ1 xs = SV.dens ρ xs := by obtain ⟨τ, rfl⟩ := l1; exact SV.dens_app xs hxs
              have dy : SV.dens ρ1 ys = SV.dens ρ ys := by obtain ⟨τ, rfl⟩ := l1; exact SV.dens_app ys hys
              have ox : SV.oks ρ1.is.length ρ1.bs.length xs = true := SV.oks_mono (Env.le_len l1).1 (Env.le_len l1).2.2 xs hxs
              have oy : SV.oks ρ1.is.length ρ1.bs.length ys = true := SV.oks_mono (Env.le_len l1).1 (Env.le_len l1).2.2 ys hys
              unfold eqArrM
              have fin : ∀ (cm : M At) (p q : Value), (∀ W : World, (part e (SV.dens ρ xs).toArray (i * s)).run P W = .ok p W) → (∀ W : World, (part e (SV.dens ρ ys).toArray (i * s)).run P W = .ok q W) →
                  MSpec Φ C cm ρ1 h1 w (Eqs P w h1 (Op.equalIn d e p q)) →
                  MSpec Φ C (do let c ← cm; let r ← eqArrM P (eqCells P d) xs ys e s (i + 1) n; mkI (.pick c r (.c 0)) : M At) ρ1 h1 w (Eqs P w h1 (do
                    for j in List.range' i (n + 1) 1 do
                      if !(← Op.equalIn d e (← part e (SV.dens ρ xs).toArray (j * s)) (← part e (SV.dens ρ ys).toArray (j * s))) then return false
                    pure true)) := by
                intro cm p q hp hq hcm
                refine hcm.bind ?_
                rintro c ρ2 h2 w2 l2 ⟨rfl, hp2, b, hb, hrb⟩
                refine (ihn (i + 1) (Env.le_trans l1 l2)).bind ?_
                rintro r ρ3 h3 w3 l3 ⟨rfl, hp3, b', hb', hrb'⟩
                refine (pick_spec (hb.mono l3) hb' (AtIs.c _ 0)).mono ?_
                rintro z ρ4 h4 w4 l4 ⟨rfl, hp4, hz⟩
                refine ⟨rfl, by rw [hp4, hp3, hp2], b && b', ?_, ?_⟩
                · cases b <;> simpa [b2i] using hz
                · intro W
                  simp only [List.range'_succ, List.forIn_cons, Sem.run_bind, hp, hq, hrb, Result.andThen_ok, Sem.run_ite, Sem.run_pure]
                  cases b
                  · simp
                  · simpa using hrb' W
              split
              · rename_i p q e1 e2 e3
                exact fin _ _ _ (fun W => run_part_one e1 (dens_get e2) W) (fun W => run_part_one e1 (dens_get e3) W)
                  (IH (by have := oks_get' ox e2; rwa [show SV.den ρ1 p = SV.den ρ p by obtain ⟨τ, rfl⟩ := l1; exact SV.den_app p (oks_get' hxs e2).1] at this)
                    (by have := oks_get' oy e3; rwa [show SV.den ρ1 q = SV.den ρ q by obtain ⟨τ, rfl⟩ := l1; exact SV.den_app q (oks_get' hys e3).1] at this))
              · rename_i e1
                exact fin _ _ _ (fun W => run_part_agg e1 es _ _ W) (fun W => run_part_agg e1 es _ _ W)
                  (IH ⟨by rw [SV.ok]; exact oks_part _ _ ox, by rw [SV.den, dens_part, dx]⟩ ⟨by rw [SV.ok]; exact oks_part _ _ oy, by rw [SV.den, dens_part, dy]⟩)
              · exact MSpec.no
          refine (body n 0 (Env.le_refl ρ)).mono ?_
          rintro r ρ' h' w' _ ⟨e1, e2, b, hb, hr⟩
          refine ⟨e1, e2, b, hb, fun W => ?_⟩
          rw [← hr W]
          simp only [Op.equalIn, Sem.run_bind, run_underlying eu, Result.andThen_ok, run_sizeOf' es]
          simp [Std.Legacy.Range.forIn_eq_forIn_range', Std.Legacy.Range.size]
        · exact MSpec.no
      · exact MSpec.no
    · exact MSpec.no
end
end Go.Sx
