/- The executor: texts of it, one behind another. -/
import Derived.Test.YtpmgfdakljjlaaaGreatDoorSxM1
import Derived.Laws.Slices
import Derived.Laws.Build
import Derived.Laws.Pointers
import Derived.WideLaws
import Derived.LaidEql
set_option linter.unusedVariables false
set_option linter.constructorNameAsVariable false
/- Arithmetic, comparisons, conversions. -/
set_option linter.unusedVariables false
namespace Go.Sx
section
variable {Φ : Phi} {C : Ctx} {ρ : Env} {h : H} {w : World} {P : Program}

theorem SvIs.int {ρ : Env} {k : IntKind} {a : At} {v : Value} (h : SvIs ρ (.i k a) v) : AtIs ρ a (a.den ρ.is) ∧ v = .int k (a.den ρ.is) :=
  ⟨⟨by have := h.1; simpa [SV.ok] using this, rfl⟩, by rw [← h.2]; rfl⟩
theorem SvIs.bool {ρ : Env} {a : At} {v : Value} (h : SvIs ρ (.b a) v) : AtIs ρ a (a.den ρ.is) ∧ v = .bool (a.den ρ.is != 0) :=
  ⟨⟨by have := h.1; simpa [SV.ok] using this, rfl⟩, by rw [← h.2]; rfl⟩
theorem AtIs.svi {ρ : Env} {k : IntKind} {a : At} {n : Int} (h : AtIs ρ a n) : SvIs ρ (.i k a) (.int k n) := ⟨by simpa [SV.ok] using h.1, by simp [SV.den, h.2]⟩
theorem AtIs.svb {ρ : Env} {a : At} {b : Bool} (h : AtIs ρ a (b2i b)) : SvIs ρ (.b a) (.bool b) := ⟨by simpa [SV.ok] using h.1, by simp only [SV.den, h.2]; cases b <;> simp [b2i]⟩

def arith (op : BinOp) (k : IntKind) (a b : At) : M SV :=
  match op with
  | .add => do let x ← mkI (.add a b); let y ← mkI (.wr k x); pure (.i k y)
  | .sub => do let x ← mkI (.sub a b); let y ← mkI (.wr k x); pure (.i k y)
  | .mul => do let x ← mkI (.mul a b); let y ← mkI (.wr k x); pure (.i k y)
  | .quo => do need .neq b (.c 0); let x ← mkI (.quo k a b); pure (.i k x)
  | .rem => do need .neq b (.c 0); let x ← mkI (.rem a b); pure (.i k x)
  | .and | .or | .xor | .andNot => do let x ← mkI (.bit op k a b); pure (.i k x)
  | .eql | .neq | .lss | .leq | .gtr | .geq => do let x ← mkI (.cmp op a b); pure (.b x)
  | _ => M.no 30

theorem okB2 {ni nl : Nat} {a b : At} (ha : a.lt ni = true) (hb : b.lt ni = true) (o : IOp) (ho : o.atoms = [a, b]) (hl : o.listy = false) : o.okB ni nl = true := by
  simp only [IOp.okB, ho, List.all_cons, List.all_nil, ha, hb, Bool.and_true, Bool.true_and]
  cases o <;> simp_all [IOp.listy]
theorem okB1 {ni nl : Nat} {a : At} (ha : a.lt ni = true) (o : IOp) (ho : o.atoms = [a]) (hl : o.listy = false) : o.okB ni nl = true := by
  simp only [IOp.okB, ho, List.all_cons, List.all_nil, ha, Bool.and_true, Bool.true_and]
  cases o <;> simp_all [IOp.listy]
theorem okB3 {ni nl : Nat} {a b c : At} (ha : a.lt ni = true) (hb : b.lt ni = true) (hc : c.lt ni = true) (o : IOp) (ho : o.atoms = [a, b, c]) (hl : o.listy = false) : o.okB ni nl = true := by
  simp only [IOp.okB, ho, List.all_cons, List.all_nil, ha, hb, hc, Bool.and_true, Bool.true_and]
  cases o <;> simp_all [IOp.listy]

/-- Same memory, a value. -/
def Val (w : World) (h : H) (v : Value) : SV → Env → H → World → Prop := fun sv ρ' h' w' => w' = w ∧ h'.hp = h.hp ∧ SvIs ρ' sv v

theorem arith_spec {op : BinOp} {k : IntKind} {a b : At} {x y : Int} (ha : AtIs ρ a x) (hb : AtIs ρ b y) (hs : op ≠ .shl) (hs' : op ≠ .shr) (t : TypeId) :
    MSpec Φ C (arith op k a b) ρ h w fun sv ρ' h' w' => w' = w ∧ h'.hp = h.hp ∧ DoesA P (binOp op t (.int k x) (.int k y)) sv ρ' := by
  have wr : ∀ (o : IOp), o.atoms = [a, b] → o.listy = false → ∀ z, o.den ρ.is ρ.ls = z →
      MSpec Φ C (do let x ← mkI o; let y ← mkI (.wr k x); pure (.i k y) : M SV) ρ h w (Val w h (.int k (k.wrap z))) := by
    intro o h1 h2 z hz
    refine (mkI_ok (okB2 ha.1 hb.1 o h1 h2)).bind ?_
    rintro x1 ρ1 h1' w1 l1 ⟨rfl, hp1, hx1⟩
    rw [hz] at hx1
    refine (mkI_ok (okB1 hx1.1 (.wr k x1) rfl rfl)).bind ?_
    rintro y1 ρ2 h2' w2 l2 ⟨rfl, hp2, hy1⟩
    simp only [IOp.den, hx1.val] at hy1
    exact MSpec.ret ⟨rfl, by rw [hp2, hp1], hy1.svi⟩
  have one : ∀ (o : IOp), o.atoms = [a, b] → o.listy = false → ∀ z, o.den ρ.is ρ.ls = z →
      MSpec Φ C (do let x ← mkI o; pure (.i k x) : M SV) ρ h w (Val w h (.int k z)) := by
    intro o h1 h2 z hz
    refine (mkI_ok (okB2 ha.1 hb.1 o h1 h2)).bind ?_
    rintro x1 ρ1 h1' w1 l1 ⟨rfl, hp1, hx1⟩
    rw [hz] at hx1
    exact MSpec.ret ⟨rfl, hp1, hx1.svi⟩
  have div : ∀ (o : IOp), o.atoms = [a, b] → o.listy = false → ∀ z, o.den ρ.is ρ.ls = z → MSpec Φ C (do need .neq b (.c 0); let x ← mkI o; pure (.i k x) : M SV) ρ h w
      fun sv ρ' h' w' => y ≠ 0 ∧ Val w h (.int k z) sv ρ' h' w' := by
    intro o h1 h2 z hz
    refine (need_spec hb (AtIs.c ρ 0)).bind ?_
    rintro _ ρ1 h1' w1 l1 ⟨rfl, hp1, c1⟩
    simp only [cmpB, bne_iff_ne] at c1
    refine (mkI_ok (okB2 (ha.mono l1).1 (hb.mono l1).1 o h1 h2)).bind ?_
    rintro x1 ρ2 h2' w2 l2 ⟨rfl, hp2, hx1⟩
    have hz' : o.den ρ1.is ρ1.ls = z := by
      have := (OpIs.of (okB2 (nl := ρ.ls.length) ha.1 hb.1 o h1 h2)).mono l1
      rw [this.val, hz]
    rw [hz'] at hx1
    exact MSpec.ret ⟨c1, rfl, by rw [hp2, hp1], hx1.svi⟩
  have cmp : MSpec Φ C (do let x ← mkI (.cmp op a b); pure (.b x) : M SV) ρ h w (Val w h (.bool (cmpB op x y))) := by
    refine (mkI_ok (okB2 ha.1 hb.1 (.cmp op a b) rfl rfl)).bind ?_
    rintro x1 ρ1 h1' w1 l1 ⟨rfl, hp1, hx1⟩
    simp only [IOp.den, ha.val, hb.val] at hx1
    exact MSpec.ret ⟨rfl, hp1, hx1.svb⟩
  have fin : ∀ (s : Sem Value) (v : Value), (∀ W : World, s.run P W = .ok v W) → ∀ (m : M SV), MSpec Φ C m ρ h w (Val w h v) →
      MSpec Φ C m ρ h w fun sv ρ' h' w' => w' = w ∧ h'.hp = h.hp ∧ DoesA P s sv ρ' := by
    intro s v hs m hm
    refine hm.mono ?_
    rintro sv ρ' h' w' l ⟨rfl, hp, hv⟩
    exact ⟨rfl, hp, v, hv, hs⟩
  cases op <;> simp only [arith]
  case add => exact fin _ _ (fun W => by simp [binOp, Op.intArith]) _ (wr (.add a b) rfl rfl (x + y) (by simp [IOp.den, ha.val, hb.val]))
  case sub => exact fin _ _ (fun W => by simp [binOp, Op.intArith]) _ (wr (.sub a b) rfl rfl (x - y) (by simp [IOp.den, ha.val, hb.val]))
  case mul => exact fin _ _ (fun W => by simp [binOp, Op.intArith]) _ (wr (.mul a b) rfl rfl (x * y) (by simp [IOp.den, ha.val, hb.val]))
  case quo =>
    refine (div (.quo k a b) rfl rfl (k.wrap (x.tdiv y)) (by simp [IOp.den, ha.val, hb.val])).mono ?_
    rintro sv ρ' h' w' l ⟨hy, rfl, hp, hv⟩
    exact ⟨rfl, hp, _, hv, fun W => by simp [binOp, Op.intDiv, hy]⟩
  case rem =>
    refine (div (.rem a b) rfl rfl (x.tmod y) (by simp [IOp.den, ha.val, hb.val])).mono ?_
    rintro sv ρ' h' w' l ⟨hy, rfl, hp, hv⟩
    exact ⟨rfl, hp, _, hv, fun W => by simp [binOp, Op.intDiv, hy]⟩
  case and => exact fin _ _ (fun W => by simp [binOp, Op.intBits, bitDen]) _ (one (.bit .and k a b) rfl rfl (bitDen .and k x y) (by simp [IOp.den, ha.val, hb.val]))
  case or => exact fin _ _ (fun W => by simp [binOp, Op.intBits, bitDen]) _ (one (.bit .or k a b) rfl rfl (bitDen .or k x y) (by simp [IOp.den, ha.val, hb.val]))
  case xor => exact fin _ _ (fun W => by simp [binOp, Op.intBits, bitDen]) _ (one (.bit .xor k a b) rfl rfl (bitDen .xor k x y) (by simp [IOp.den, ha.val, hb.val]))
  case andNot => exact fin _ _ (fun W => by simp [binOp, Op.intBits, bitDen]) _ (one (.bit .andNot k a b) rfl rfl (bitDen .andNot k x y) (by simp [IOp.den, ha.val, hb.val]))
  case shl => exact absurd rfl hs
  case shr => exact absurd rfl hs'
  case eql => exact fin _ _ (fun W => by simp [binOp, Op.intCmp, cmpB]) _ cmp
  case neq => exact fin _ _ (fun W => by simp [binOp, Op.intCmp, cmpB]) _ cmp
  case lss => exact fin _ _ (fun W => by simp [binOp, Op.intCmp, cmpB]) _ cmp
  case leq => exact fin _ _ (fun W => by simp [binOp, Op.intCmp, cmpB]) _ cmp
  case gtr => exact fin _ _ (fun W => by simp [binOp, Op.intCmp, cmpB]) _ cmp
  case geq => exact fin _ _ (fun W => by simp [binOp, Op.intCmp, cmpB]) _ cmp

def shiftM (op : BinOp) (k : IntKind) (a b : At) : M SV := do
  need .geq b (.c 0)
  match op with
  | .shl => do let x ← mkI (.shl k a b); pure (.i k x)
  | .shr => do let x ← mkI (.shr k a b); pure (.i k x)
  | _ => M.no 31
theorem shift_spec {op : BinOp} {k yk : IntKind} {a b : At} {x y : Int} (ha : AtIs ρ a x) (hb : AtIs ρ b y) (t : TypeId) :
    MSpec Φ C (shiftM op k a b) ρ h w fun sv ρ' h' w' => w' = w ∧ h'.hp = h.hp ∧ DoesA P (binOp op t (.int k x) (.int yk y)) sv ρ' := by
  unfold shiftM
  refine (need_spec hb (AtIs.c ρ 0)).bind ?_
  rintro _ ρ1 h1' w1 l1 ⟨rfl, hp1, c1⟩
  simp only [cmpB, decide_eq_true_eq] at c1
  have hy : ¬ y < 0 := by omega
  cases op <;> simp only <;> first | exact MSpec.no | skip
  · refine (mkI_ok (okB2 (ha.mono l1).1 (hb.mono l1).1 (.shl k a b) rfl rfl)).bind ?_
    rintro x1 ρ2 h2' w2 l2 ⟨rfl, hp2, hx1⟩
    simp only [IOp.den, (ha.mono l1).val, (hb.mono l1).val] at hx1
    exact MSpec.ret ⟨rfl, by rw [hp2, hp1], _, hx1.svi, fun W => by simp [binOp, Op.shift, hy]⟩
  · refine (mkI_ok (okB2 (ha.mono l1).1 (hb.mono l1).1 (.shr k a b) rfl rfl)).bind ?_
    rintro x1 ρ2 h2' w2 l2 ⟨rfl, hp2, hx1⟩
    simp only [IOp.den, (ha.mono l1).val, (hb.mono l1).val] at hx1
    exact MSpec.ret ⟨rfl, by rw [hp2, hp1], _, hx1.svi, fun W => by simp [binOp, Op.shift, hy]⟩
end
end Go.Sx
/- Equality, conversions, aggregates, addresses. -/
set_option linter.unusedVariables false
namespace Go.Sx
section
variable {Φ : Phi} {C : Ctx} {ρ : Env} {h : H} {w : World} {P : Program}

/-! ### Equality -/
abbrev EqF := TypeId → SV → SV → M At
def eqFieldsM (P : Program) (F : EqF) (xs ys : List SV) : List Field → M At
  | [] => pure (.c 1)
  | f :: fs =>
    if f.name ≠ "_" then (match isAggT P f.type, xs[f.offset]?, ys[f.offset]? with
      | some false, some x, some y => do
        let c ← F f.type x y
        let r ← eqFieldsM P F xs ys fs
        mkI (.pick c r (.c 0))
      | some true, _, _ => (match sizeT P f.type with
        | some s => do
          let c ← F f.type (.agg ((xs.drop f.offset).take s)) (.agg ((ys.drop f.offset).take s))
          let r ← eqFieldsM P F xs ys fs
          mkI (.pick c r (.c 0))
        | none => M.no 48)
      | _, _, _ => M.no 49)
    else eqFieldsM P F xs ys fs
def eqArrM (P : Program) (F : EqF) (xs ys : List SV) (e : TypeId) (s : Nat) : Nat → Nat → M At
  | _, 0 => pure (.c 1)
  | i, n + 1 => (match isAggT P e, xs[i * s]?, ys[i * s]? with
    | some false, some x, some y => do
      let c ← F e x y
      let r ← eqArrM P F xs ys e s (i + 1) n
      mkI (.pick c r (.c 0))
    | some true, _, _ => do
      let c ← F e (.agg ((xs.drop (i * s)).take s)) (.agg ((ys.drop (i * s)).take s))
      let r ← eqArrM P F xs ys e s (i + 1) n
      mkI (.pick c r (.c 0))
    | _, _, _ => M.no 50)
/-- Equality of two values as a number 0 or 1. -/
def eqCells (P : Program) : Nat → EqF
  | 0, _, _, _ => M.no 40
  | d + 1, t, x, y =>
    match x, y with
    | .i k a, .i k' b => (match P.underlying t with
      | some (.int _) => if k = k' then mkI (.cmp .eql a b) else M.no 41
      | _ => M.no 42)
    | .b a, .b b => (match P.underlying t with
      | some .bool => do
        let na ← mkI (.not a)
        let nb ← mkI (.not b)
        mkI (.cmp .eql na nb)
      | _ => M.no 43)
    | .agg xs, .agg ys => (match P.underlying t with
      | some (.struct fs) => if P.stoodInHeld t then M.no 44 else eqFieldsM P (eqCells P d) xs ys fs.toList
      | some (.array n e) => (match sizeT P e with
        | some s => eqArrM P (eqCells P d) xs ys e s 0 n
        | none => M.no 46)
      | _ => M.no 45)
    | _, _ => M.no 47

def Eqs (P : Program) (w : World) (h : H) (s : Sem Bool) : At → Env → H → World → Prop := fun a ρ' h' w' => w' = w ∧ h'.hp = h.hp ∧ ∃ b, AtIs ρ' a (b2i b) ∧ ∀ W : World, s.run P W = .ok b W

theorem SvIs.agg {ρ : Env} {xs : List SV} {v : Value} (h : SvIs ρ (.agg xs) v) : SV.oks ρ.is.length ρ.bs.length xs = true ∧ v = .agg (SV.dens ρ xs).toArray :=
  ⟨by have := h.1; rwa [SV.ok] at this, by rw [← h.2, SV.den]⟩
theorem oks_get' {ρ : Env} {xs : List SV} {j : Nat} {x : SV} (h : SV.oks ρ.is.length ρ.bs.length xs = true) (e : xs[j]? = some x) : SvIs ρ x (SV.den ρ x) := (oks_get h e).1
theorem dens_get {ρ : Env} {xs : List SV} {j : Nat} {x : SV} (e : xs[j]? = some x) : (SV.dens ρ xs)[j]? = some (SV.den ρ x) := by
  rw [SV.dens_eq, List.getElem?_map, e]; rfl
theorem oks_append {ni nb : Nat} : ∀ {xs ys : List SV}, SV.oks ni nb xs = true → SV.oks ni nb ys = true → SV.oks ni nb (xs ++ ys) = true
  | [], _, _, h => h
  | x :: xs, ys, h1, h2 => by
    simp only [SV.oks, List.cons_append, Bool.and_eq_true] at *
    exact ⟨h1.1, oks_append h1.2 h2⟩
theorem dens_append {ρ : Env} (xs ys : List SV) : SV.dens ρ (xs ++ ys) = SV.dens ρ xs ++ SV.dens ρ ys := by simp [SV.dens_eq]

theorem oks_part {ni nb : Nat} : ∀ {xs : List SV} (a b : Nat), SV.oks ni nb xs = true → SV.oks ni nb ((xs.drop a).take b) = true
  | [], a, b, _ => by simp [SV.oks]
  | x :: xs, 0, 0, _ => rfl
  | x :: xs, 0, b + 1, h => by
    simp only [SV.oks, Bool.and_eq_true, List.drop_zero, List.take_succ_cons] at *
    exact ⟨h.1, by simpa using oks_part 0 b h.2⟩
  | x :: xs, a + 1, b, h => by
    simp only [SV.oks, Bool.and_eq_true, List.drop_succ_cons] at *
    exact oks_part a b h.2
theorem dens_part {ρ : Env} (xs : List SV) (a b : Nat) : SV.dens ρ ((xs.drop a).take b) = ((SV.dens ρ xs).drop a).take b := by
  simp [SV.dens_eq, List.map_take, List.map_drop]
theorem extract_toArray (l : List Value) (a b : Nat) : (l.toArray.extract a (a + b)).toList = (l.drop a).take b := by
  simp
theorem run_part_one {t : TypeId} (e : isAggT P t = some false) {l : List Value} {o : Nat} {v : Value} (hv : l[o]? = some v) (w : World) : (part t l.toArray o).run P w = .ok v w := by
  simp [part, run_isAgg e, hv]
theorem run_part_agg {t : TypeId} {s : Nat} (e : isAggT P t = some true) (es : sizeT P t = some s) (l : List Value) (o : Nat) (w : World) :
    (part t l.toArray o).run P w = .ok (.agg ((l.drop o).take s).toArray) w := by
  simp [part, run_isAgg e, run_sizeOf' es]

theorem pick_spec {a b c : At} {p : Bool} {x y : Int} (hc : AtIs ρ c (b2i p)) (ha : AtIs ρ a x) (hb : AtIs ρ b y) :
    MSpec Φ C (mkI (.pick c a b)) ρ h w fun r ρ' h' w' => w' = w ∧ h'.hp = h.hp ∧ AtIs ρ' r (if p then x else y) := by
  refine (mkI_ok (okB3 hc.1 ha.1 hb.1 (.pick c a b) rfl rfl)).mono ?_
  rintro r ρ' h' w' l ⟨rfl, hp, hr⟩
  refine ⟨rfl, hp, ?_⟩
  simp only [IOp.den, hc.val, ha.val, hb.val] at hr
  cases p <;> simpa [b2i] using hr
theorem cmp_spec {op : BinOp} {a b : At} {x y : Int} (ha : AtIs ρ a x) (hb : AtIs ρ b y) :
    MSpec Φ C (mkI (.cmp op a b)) ρ h w fun r ρ' h' w' => w' = w ∧ h'.hp = h.hp ∧ AtIs ρ' r (b2i (cmpB op x y)) := by
  refine (mkI_ok (okB2 ha.1 hb.1 (.cmp op a b) rfl rfl)).mono ?_
  rintro r ρ' h' w' l ⟨rfl, hp, hr⟩
  simp only [IOp.den, ha.val, hb.val] at hr
  exact ⟨rfl, hp, hr⟩
theorem not_spec {a : At} {x : Int} (ha : AtIs ρ a x) : MSpec Φ C (mkI (.not a)) ρ h w fun r ρ' h' w' => w' = w ∧ h'.hp = h.hp ∧ AtIs ρ' r (b2i (x == 0)) := by
  refine (mkI_ok (okB1 ha.1 (.not a) rfl rfl)).mono ?_
  rintro r ρ' h' w' l ⟨rfl, hp, hr⟩
  simp only [IOp.den, ha.val] at hr
  exact ⟨rfl, hp, hr⟩

theorem eqCells_spec : ∀ (d : Nat) {ρ : Env} {h : H} {t : TypeId} {x y : SV} {u v : Value}, SvIs ρ x u → SvIs ρ y v →
    MSpec Φ C (eqCells P d t x y) ρ h w (Eqs P w h (Op.equalIn d t u v))
  | 0, _, _, _, _, _, _, _, _, _ => MSpec.no
  | d + 1, ρ, h, t, x, y, u, v, hx, hy => by
    have IH := @eqCells_spec d
    unfold eqCells
    split
    · rename_i k a k' b
      obtain ⟨ha, rfl⟩ := hx.int
      obtain ⟨hb, rfl⟩ := hy.int
      split
      · rename_i kk eu
        split
        · rename_i ek
          subst ek
          refine (cmp_spec ha hb).mono ?_
          rintro r ρ' h' w' l ⟨rfl, hp, hr⟩
          exact ⟨rfl, hp, _, hr, fun W => by rw [run_equalIn_int _ _ _ _ _ _ _ eu]; rfl⟩
        · exact MSpec.no
      · exact MSpec.no
    · rename_i a b
      obtain ⟨ha, rfl⟩ := hx.bool
      obtain ⟨hb, rfl⟩ := hy.bool
      split
      · rename_i eu
        refine (not_spec ha).bind ?_
        rintro na ρ1 h1 w1 l1 ⟨rfl, hp1, hna⟩
        refine (not_spec (hb.mono l1)).bind ?_
        rintro nb ρ2 h2 w2 l2 ⟨rfl, hp2, hnb⟩
        refine (cmp_spec (hna.mono l2) hnb).mono ?_
        rintro r ρ3 h3 w3 l3 ⟨rfl, hp3, hr⟩
        refine ⟨rfl, by rw [hp3, hp2, hp1], _, hr, fun W => ?_⟩
        rw [run_equalIn_bool _ _ _ _ _ eu]
        congr 1
        generalize At.den ρ.is a = p
        generalize At.den ρ.is b = q
        cases hp : (p == 0) <;> cases hq : (q == 0) <;> simp [bne, hp, hq, cmpB, b2i]
      · exact MSpec.no
    · rename_i xs ys
      obtain ⟨hxs, rfl⟩ := hx.agg
      obtain ⟨hys, rfl⟩ := hy.agg
      split
      · rename_i fs eu
        split
        · exact MSpec.no
        · rename_i hsi
          have hfo : P.fieldsOf t = fs := by simp [Program.fieldsOf, eu]
          have hrun := fun W : World => run_equalIn_struct (P := P) W d t (SV.dens ρ xs).toArray (SV.dens ρ ys).toArray (by rw [hfo]; exact eu) (by simpa using hsi)
          simp only [hfo] at hrun
          have key : ∀ (l : List Field) {ρ1 : Env} {h1 : H}, ρ.le ρ1 → MSpec Φ C (eqFieldsM P (eqCells P d) xs ys l) ρ1 h1 w (Eqs P w h1 (Op.eqFields d (SV.dens ρ xs).toArray (SV.dens ρ ys).toArray l)) := by
            intro l
            induction l with
            | nil =>
              intro ρ1 h1 l1
              exact MSpec.ret ⟨rfl, rfl, true, AtIs.c _ 1, fun _ => rfl⟩
            | cons f l ihl =>
              intro ρ1 h1 l1
              have dx : SV.dens ρ1 xs = SV.dens ρ xs := by obtain ⟨τ, rfl⟩ := l1; exact SV.dens_app xs hxs
              have dy : SV.dens ρ1 ys = SV.dens ρ ys := by obtain ⟨τ, rfl⟩ := l1; exact SV.dens_app ys hys
              have ox : SV.oks ρ1.is.length ρ1.bs.length xs = true := SV.oks_mono (Env.le_len l1).1 (Env.le_len l1).2.2 xs hxs
              have oy : SV.oks ρ1.is.length ρ1.bs.length ys = true := SV.oks_mono (Env.le_len l1).1 (Env.le_len l1).2.2 ys hys
              unfold eqFieldsM
              split
              · rename_i hn
                have fin : ∀ (cm : M At) (p q : Value), (∀ W : World, (part f.type (SV.dens ρ xs).toArray f.offset).run P W = .ok p W) → (∀ W : World, (part f.type (SV.dens ρ ys).toArray f.offset).run P W = .ok q W) →
                    MSpec Φ C cm ρ1 h1 w (Eqs P w h1 (Op.equalIn d f.type p q)) →
                    MSpec Φ C (do let c ← cm; let r ← eqFieldsM P (eqCells P d) xs ys l; mkI (.pick c r (.c 0)) : M At) ρ1 h1 w (Eqs P w h1 (Op.eqFields d (SV.dens ρ xs).toArray (SV.dens ρ ys).toArray (f :: l))) := by
                  intro cm p q hp hq hcm
                  refine hcm.bind ?_
                  rintro c ρ2 h2 w2 l2 ⟨rfl, hp2, b, hb, hrb⟩
                  refine (ihl (Env.le_trans l1 l2)).bind ?_
                  rintro r ρ3 h3 w3 l3 ⟨rfl, hp3, b', hb', hrb'⟩
                  refine (pick_spec (hb.mono l3) hb' (AtIs.c _ 0)).mono ?_
                  rintro z ρ4 h4 w4 l4 ⟨rfl, hp4, hz⟩
                  refine ⟨rfl, by rw [hp4, hp3, hp2], b && b', ?_, ?_⟩
                  · cases b <;> simpa [b2i] using hz
                  · intro W
                    simp only [Op.eqFields, hn, Sem.run_bind, hp, hq, hrb, Result.andThen_ok, if_true, ne_eq, not_false_eq_true, Sem.run_ite, Sem.run_pure]
                    cases b
                    · simp
                    · simpa using hrb' W
                split
                · rename_i p q e1 e2 e3
                  exact fin _ _ _ (fun W => run_part_one e1 (dens_get e2) W) (fun W => run_part_one e1 (dens_get e3) W)
                    (IH (by have := oks_get' ox e2; rwa [show SV.den ρ1 p = SV.den ρ p by obtain ⟨τ, rfl⟩ := l1; exact SV.den_app p (oks_get' hxs e2).1] at this)
                      (by have := oks_get' oy e3; rwa [show SV.den ρ1 q = SV.den ρ q by obtain ⟨τ, rfl⟩ := l1; exact SV.den_app q (oks_get' hys e3).1] at this))
                · rename_i e1
                  split
                  · rename_i s es
                    exact fin _ _ _ (fun W => run_part_agg e1 es _ _ W) (fun W => run_part_agg e1 es _ _ W)
                      (IH ⟨by rw [SV.ok]; exact oks_part _ _ ox, by rw [SV.den, dens_part, dx]⟩ ⟨by rw [SV.ok]; exact oks_part _ _ oy, by rw [SV.den, dens_part, dy]⟩)
                  · exact MSpec.no
                · exact MSpec.no
              · rename_i hn
                refine (ihl l1).mono ?_
                rintro r ρ' h' w' _ ⟨e1, e2, b, hb, hr⟩
                exact ⟨e1, e2, b, hb, fun W => by simp only [Op.eqFields, hn, if_false]; exact hr W⟩
          refine (key fs.toList (Env.le_refl ρ)).mono ?_
          rintro r ρ' h' w' _ ⟨e1, e2, b, hb, hr⟩
          exact ⟨e1, e2, b, hb, fun W => by rw [hrun]; exact hr W⟩
      · rename_i n e eu
        split
        · rename_i s es
          have body : ∀ (n i : Nat) {ρ1 : Env} {h1 : H}, ρ.le ρ1 → MSpec Φ C (eqArrM P (eqCells P d) xs ys e s i n) ρ1 h1 w (Eqs P w h1 (do
              for j in List.range' i n 1 do
                if !(← Op.equalIn d e (← part e (SV.dens ρ xs).toArray (j * s)) (← part e (SV.dens ρ ys).toArray (j * s))) then return false
              pure true)) := by
            intro n
            induction n with
            | zero =>
              intro i ρ1 h1 l1
              exact MSpec.ret ⟨rfl, rfl, true, AtIs.c _ 1, fun _ => by simp⟩
            | succ n ihn =>
              intro i ρ1 h1 l1
              have dx : SV.dens ρ1 xs = SV.dens ρ xs := by obtain ⟨τ, rfl⟩ := l1; exact SV.dens_app xs hxs
              have dy : SV.dens ρ1 ys = SV.dens ρ ys := by obtain ⟨τ, rfl⟩ := l1; exact SV.dens_app ys hys
              have ox : SV.oks ρ1.is.length ρ1.bs.length xs = true := SV.oks_mono (Env.le_len l1).1 (Env.le_len l1).2.2 xs hxs
              have oy : SV.oks ρ1.is.length ρ1.bs.length ys = true := SV.oks_mono (Env.le_len l1).1 (Env.le_len l1).2.2 ys hys
              unfold eqArrM
              have fin : ∀ (cm : M At) (p q : Value), (∀ W : World, (part e (SV.dens ρ xs).toArray (i * s)).run P W = .ok p W) → (∀ W : World, (part e (SV.dens ρ ys).toArray (i * s)).run P W = .ok q W) →
                  MSpec Φ C cm ρ1 h1 w (Eqs P w h1 (Op.equalIn d e p q)) →
                  MSpec Φ C (do let c ← cm; let r ← eqArrM P (eqCells P d) xs ys e s (i + 1) n; mkI (.pick c r (.c 0)) : M At) ρ1 h1 w (Eqs P w h1 (do
                    for j in List.range' i (n + 1) 1 do
                      if !(← Op.equalIn d e (← part e (SV.dens ρ xs).toArray (j * s)) (← part e (SV.dens ρ ys).toArray (j * s))) then return false
                    pure true)) := by
                intro cm p q hp hq hcm
                refine hcm.bind ?_
                rintro c ρ2 h2 w2 l2 ⟨rfl, hp2, b, hb, hrb⟩
                refine (ihn (i + 1) (Env.le_trans l1 l2)).bind ?_
                rintro r ρ3 h3 w3 l3 ⟨rfl, hp3, b', hb', hrb'⟩
                refine (pick_spec (hb.mono l3) hb' (AtIs.c _ 0)).mono ?_
                rintro z ρ4 h4 w4 l4 ⟨rfl, hp4, hz⟩
                refine ⟨rfl, by rw [hp4, hp3, hp2], b && b', ?_, ?_⟩
                · cases b <;> simpa [b2i] using hz
                · intro W
                  simp only [List.range'_succ, List.forIn_cons, Sem.run_bind, hp, hq, hrb, Result.andThen_ok, Sem.run_ite, Sem.run_pure]
                  cases b
                  · simp
                  · simpa using hrb' W
              split
              · rename_i p q e1 e2 e3
                exact fin _ _ _ (fun W => run_part_one e1 (dens_get e2) W) (fun W => run_part_one e1 (dens_get e3) W)
                  (IH (by have := oks_get' ox e2; rwa [show SV.den ρ1 p = SV.den ρ p by obtain ⟨τ, rfl⟩ := l1; exact SV.den_app p (oks_get' hxs e2).1] at this)
                    (by have := oks_get' oy e3; rwa [show SV.den ρ1 q = SV.den ρ q by obtain ⟨τ, rfl⟩ := l1; exact SV.den_app q (oks_get' hys e3).1] at this))
              · rename_i e1
                exact fin _ _ _ (fun W => run_part_agg e1 es _ _ W) (fun W => run_part_agg e1 es _ _ W)
                  (IH ⟨by rw [SV.ok]; exact oks_part _ _ ox, by rw [SV.den, dens_part, dx]⟩ ⟨by rw [SV.ok]; exact oks_part _ _ oy, by rw [SV.den, dens_part, dy]⟩)
              · exact MSpec.no
          refine (body n 0 (Env.le_refl ρ)).mono ?_
          rintro r ρ' h' w' _ ⟨e1, e2, b, hb, hr⟩
          refine ⟨e1, e2, b, hb, fun W => ?_⟩
          rw [← hr W]
          simp only [Op.equalIn, Sem.run_bind, run_underlying eu, Result.andThen_ok, run_sizeOf' es]
          simp [Std.Legacy.Range.forIn_eq_forIn_range', Std.Legacy.Range.size]
        · exact MSpec.no
      · exact MSpec.no
    · exact MSpec.no
end
end Go.Sx
/- The operations that are no calls, all of them together. -/
set_option linter.unusedVariables false
namespace Go.Sx

def lift (x : Option SV) : M SV :=
  match x with
  | some v => pure v
  | none => M.no 60

def constStr (x : SV) : Option ByteArray :=
  match x with
  | .raw (.string s) => some s
  | _ => none
def isNilIface : SV → Bool
  | .raw .nilIface => true
  | _ => false
def isIface : SV → Bool
  | .iface _ _ => true
  | _ => false
def bConst (b : Bool) : SV := .b (.c (b2i b))

/-- '==' and '!=' beyond integers. -/
def eqlM (P : Program) (neg : Bool) (t : TypeId) (u v : SV) : M SV :=
  match u, v with
  | .b a, .b b => (match P.underlying t with
    | some .bool => do
      let na ← mkI (.not a)
      let nb ← mkI (.not b)
      let c ← mkI (.cmp (if neg then .neq else .eql) na nb)
      pure (.b c)
    | _ => M.no 61)
  | .raw (.string s), .raw (.string s') => pure (bConst (if neg then !(s.toList == s'.toList) else (s.toList == s'.toList)))
  | .nilp, .nilp => (match P.underlying t with | some (.pointer _) => pure (bConst (!neg)) | _ => M.no 62)
  | .nilp, .ptr _ _ => (match P.underlying t with | some (.pointer _) => pure (bConst neg) | _ => M.no 62)
  | .ptr _ _, .nilp => (match P.underlying t with | some (.pointer _) => pure (bConst neg) | _ => M.no 62)
  | .raw .nilIface, .raw .nilIface => (match P.underlying t with | some (.interface _) => pure (bConst (!neg)) | _ => M.no 63)
  | .raw .nilIface, .iface _ _ => (match P.underlying t with | some (.interface _) => pure (bConst neg) | _ => M.no 63)
  | .iface _ _, .raw .nilIface => (match P.underlying t with | some (.interface _) => pure (bConst neg) | _ => M.no 63)
  | .nils, .nils => (match P.underlying t with | some (.slice _) => pure (bConst (!neg)) | _ => M.no 64)
  | .nils, .slc _ _ _ _ => (match P.underlying t with | some (.slice _) => pure (bConst neg) | _ => M.no 64)
  | .slc _ _ _ _, .nils => (match P.underlying t with | some (.slice _) => pure (bConst neg) | _ => M.no 64)
  | .nils, .vec _ _ c => (match P.underlying t with | some (.slice _) => (do let r ← mkI (.cmp (if neg then .neq else .eql) c (.c 0)); pure (.b r)) | _ => M.no 64)
  | .vec _ _ c, .nils => (match P.underlying t with | some (.slice _) => (do let r ← mkI (.cmp (if neg then .neq else .eql) c (.c 0)); pure (.b r)) | _ => M.no 64)
  | .agg xs, .agg ys => if P.eqGuardType P.depth t then M.no 65 else do
      let c ← eqCells P 10000 t (.agg xs) (.agg ys)
      if neg then (do let d ← mkI (.not c); pure (.b d)) else pure (.b c)
  | _, _ => M.no 66
def isConstO : Operand → Bool
  | .const _ => true
  | _ => false
def binM (P : Program) (op : BinOp) (t : TypeId) (x y : Operand) (u v : SV) : M SV :=
  match u, v with
  | .i k a, .i k' b => (match op with
    | .shl => shiftM op k a b
    | .shr => shiftM op k a b
    | _ => if k = k' then arith op k a b else M.no 67)
  | .raw (.string s), .raw (.string s') => (match op with
    | .eql => eqlM P false t u v
    | .neq => eqlM P true t u v
    | .add => if ((s.size + s'.size : Nat) : Int) > IntKind.i64.max then M.no 68 else pure (.raw (.string (s ++ s')))
    | _ => M.no 69)
  | u, v => (match op with
    | .eql => if isNilIface u && isNilIface v && !(isConstO x || isConstO y) then M.no 70 else eqlM P false t u v
    | .neq => if isNilIface u && isNilIface v && !(isConstO x || isConstO y) then M.no 70 else eqlM P true t u v
    | _ => M.no 71)

section
variable {Φ : Phi} {C : Ctx} {ρ : Env} {h : H} {w : World} {P : Program}

theorem bConst_is (ρ : Env) (b : Bool) : SvIs ρ (bConst b) (.bool b) := (AtIs.c ρ (b2i b)).svb
theorem SvIs.raw {ρ : Env} {u v : Value} (h : SvIs ρ (.raw u) v) : v = u := by rw [← h.2]; rfl
theorem SvIs.nilp {ρ : Env} {v : Value} (h : SvIs ρ .nilp v) : v = .pointer none := by rw [← h.2]; rfl
theorem SvIs.nils {ρ : Env} {v : Value} (h : SvIs ρ .nils v) : v = .slice none 0 0 := by rw [← h.2]; rfl
theorem SvIs.ptr {ρ : Env} {n : Nat} {o : At} {v : Value} (h : SvIs ρ (.ptr n o) v) : n < ρ.bs.length ∧ AtIs ρ o (o.den ρ.is) ∧ v = .pointer (some (ρ.at n o)) := by
  have h1 := h.1
  simp only [SV.ok, Bool.and_eq_true, decide_eq_true_eq] at h1
  exact ⟨h1.1, ⟨h1.2, rfl⟩, by rw [← h.2]; rfl⟩
theorem SvIs.slc {ρ : Env} {n : Nat} {o l c : At} {v : Value} (h : SvIs ρ (.slc n o l c) v) :
    n < ρ.bs.length ∧ AtIs ρ o (o.den ρ.is) ∧ AtIs ρ l (l.den ρ.is) ∧ AtIs ρ c (c.den ρ.is) ∧ v = .slice (some (ρ.at n o)) (l.den ρ.is).toNat (c.den ρ.is).toNat := by
  have h1 := h.1
  simp only [SV.ok, Bool.and_eq_true, decide_eq_true_eq] at h1
  exact ⟨h1.1, ⟨h1.2.1, rfl⟩, ⟨h1.2.2.1, rfl⟩, ⟨h1.2.2.2, rfl⟩, by rw [← h.2]; rfl⟩
theorem SvIs.vec {ρ : Env} {n : Nat} {l c : At} {v : Value} (h : SvIs ρ (.vec n l c) v) :
    n < ρ.bs.length ∧ AtIs ρ l (l.den ρ.is) ∧ AtIs ρ c (c.den ρ.is) ∧ v = if c.den ρ.is = 0 then .slice none 0 0 else .slice (some ⟨(ρ.b n).1, (ρ.b n).2, none⟩) (l.den ρ.is).toNat (c.den ρ.is).toNat := by
  have h1 := h.1
  simp only [SV.ok, Bool.and_eq_true, decide_eq_true_eq] at h1
  exact ⟨h1.1, ⟨h1.2.1, rfl⟩, ⟨h1.2.2, rfl⟩, by rw [← h.2, SV.den]⟩
theorem SvIs.iface {ρ : Env} {t : TypeId} {x : SV} {v : Value} (h : SvIs ρ (.iface t x) v) : SvIs ρ x (SV.den ρ x) ∧ v = .iface t (SV.den ρ x) :=
  ⟨⟨by have := h.1; rwa [SV.ok] at this, rfl⟩, by rw [← h.2, SV.den]⟩

/-- The guard ahead of '==' lets it by. -/
theorem eqGuard_ok {op : BinOp} {t : TypeId} {x y : Operand} {u v : Value} (h1 : ∀ xs ys, u = .agg xs → v = .agg ys → P.eqGuardType P.depth t = false)
    (h2 : u = .nilIface → v = .nilIface → isConstO x = true ∨ isConstO y = true) (w : World) : (eqGuard op t x y u v).run P w = .ok () w := by
  cases op <;> first
    | rfl
    | (unfold eqGuard
       simp only [Bool.not_true, Bool.false_eq_true, if_false]
       split
       · rcases h2 rfl rfl with hc | hc
         · cases x <;> simp_all [isConstO]
         · cases y <;> simp_all [isConstO]
       · rename_i xs ys
         simp [run_program, h1 xs ys rfl rfl]
       · rfl)

def Eql (P : Program) (neg : Bool) (t : TypeId) (u v : Value) : Sem Value := binOp (if neg then .neq else .eql) t u v

theorem run_eql_of {neg : Bool} {t : TypeId} {u v : Value} {b : Bool} (hb : binOp (if neg then .neq else .eql) t u v = (if neg then (do pure (.bool (!(← Op.equal t u v)))) else (do pure (.bool (← Op.equal t u v)))))
    (he : ∀ W : World, (Op.equal t u v).run P W = .ok b W) (W : World) : (Eql P neg t u v).run P W = .ok (.bool (if neg then !b else b)) W := by
  unfold Eql
  rw [hb]
  cases neg <;> simp [he]

theorem eq_of_succ {t : TypeId} {u v : Value} {b : Bool} (he : ∀ d W, (Op.equalIn (d + 1) t u v).run P W = .ok b W) : ∀ W : World, (Op.equal t u v).run P W = .ok b W := fun W => he 9999 W
theorem eqlM_spec {neg : Bool} {t : TypeId} {x y : SV} {u v : Value} (hx : SvIs ρ x u) (hy : SvIs ρ y v) :
    MSpec Φ C (eqlM P neg t x y) ρ h w fun sv ρ' h' w' => w' = w ∧ h'.hp = h.hp ∧ DoesA P (Eql P neg t u v) sv ρ' ∧
      (∀ xs ys, u = .agg xs → v = .agg ys → P.eqGuardType P.depth t = false) := by
  have con : ∀ b : Bool, (∀ W : World, (Eql P neg t u v).run P W = .ok (.bool b) W) → (∀ xs ys, u = .agg xs → v = .agg ys → P.eqGuardType P.depth t = false) →
      MSpec Φ C (pure (bConst b) : M SV) ρ h w fun sv ρ' h' w' => w' = w ∧ h'.hp = h.hp ∧ DoesA P (Eql P neg t u v) sv ρ' ∧
      (∀ xs ys, u = .agg xs → v = .agg ys → P.eqGuardType P.depth t = false) :=
    fun b hb hg => MSpec.ret ⟨rfl, rfl, ⟨_, bConst_is ρ b, hb⟩, hg⟩
  unfold eqlM
  split
  · rename_i a b
    obtain ⟨ha, rfl⟩ := hx.bool
    obtain ⟨hb, rfl⟩ := hy.bool
    split
    · rename_i eu
      refine (not_spec ha).bind ?_
      rintro na ρ1 h1 w1 l1 ⟨rfl, hp1, hna⟩
      refine (not_spec (hb.mono l1)).bind ?_
      rintro nb ρ2 h2 w2 l2 ⟨rfl, hp2, hnb⟩
      refine (cmp_spec (hna.mono l2) hnb).bind ?_
      rintro r ρ3 h3 w3 l3 ⟨rfl, hp3, hr⟩
      refine MSpec.ret ⟨rfl, by rw [hp3, hp2, hp1], ⟨_, hr.svb, fun W => ?_⟩, by rintro _ _ h; cases h⟩
      unfold Eql
      generalize At.den ρ.is a = p
      generalize At.den ρ.is b = q
      cases neg
      · simp only [Bool.false_eq_true, if_false]
        rw [run_eql_bool _ _ _ _ eu]
        cases hp : (p == 0) <;> cases hq : (q == 0) <;> simp [bne, hp, hq, cmpB, b2i]
      · simp only [if_true]
        rw [run_neq_bool _ _ _ _ eu]
        cases hp : (p == 0) <;> cases hq : (q == 0) <;> simp [bne, hp, hq, cmpB, b2i]
    · exact MSpec.no
  · rename_i s s'
    obtain rfl := hx.raw
    obtain rfl := hy.raw
    refine con _ (fun W => ?_) (by rintro _ _ h; cases h)
    unfold Eql
    cases neg <;> simp [binOp, Op.stringOp]
  · obtain rfl := hx.nilp
    obtain rfl := hy.nilp
    split
    · rename_i e eu
      refine con _ (fun W => ?_) (by rintro _ _ h; cases h)
      rw [run_eql_of (b := true) (by cases neg <;> rfl) (eq_of_succ fun d W => by simp [Op.equalIn, run_underlying eu])]
      cases neg <;> rfl
    · exact MSpec.no
  · obtain rfl := hx.nilp
    obtain ⟨_, _, rfl⟩ := hy.ptr
    split
    · rename_i e eu
      refine con _ (fun W => ?_) (by rintro _ _ h; cases h)
      rw [run_eql_of (b := false) (by cases neg <;> rfl) (eq_of_succ fun d W => by simp [Op.equalIn, run_underlying eu])]
      cases neg <;> rfl
    · exact MSpec.no
  · obtain ⟨_, _, rfl⟩ := hx.ptr
    obtain rfl := hy.nilp
    split
    · rename_i e eu
      refine con _ (fun W => ?_) (by rintro _ _ h; cases h)
      rw [run_eql_of (b := false) (by cases neg <;> rfl) (eq_of_succ fun d W => by simp [Op.equalIn, run_underlying eu])]
      cases neg <;> rfl
    · exact MSpec.no
  · obtain rfl := hx.raw
    obtain rfl := hy.raw
    split
    · rename_i e eu
      refine con _ (fun W => ?_) (by rintro _ _ h; cases h)
      rw [run_eql_of (b := true) (by cases neg <;> rfl) (eq_of_succ fun d W => by simp [Op.equalIn, run_underlying eu])]
      cases neg <;> rfl
    · exact MSpec.no
  · obtain rfl := hx.raw
    obtain ⟨_, rfl⟩ := hy.iface
    split
    · rename_i e eu
      refine con _ (fun W => ?_) (by rintro _ _ h; cases h)
      rw [run_eql_of (b := false) (by cases neg <;> rfl) (eq_of_succ fun d W => by simp [Op.equalIn, run_underlying eu])]
      cases neg <;> rfl
    · exact MSpec.no
  · obtain ⟨_, rfl⟩ := hx.iface
    obtain rfl := hy.raw
    split
    · rename_i e eu
      refine con _ (fun W => ?_) (by rintro _ _ h; cases h)
      rw [run_eql_of (b := false) (by cases neg <;> rfl) (eq_of_succ fun d W => by simp [Op.equalIn, run_underlying eu])]
      cases neg <;> rfl
    · exact MSpec.no
  · obtain rfl := hx.nils
    obtain rfl := hy.nils
    split
    · rename_i e eu
      refine con _ (fun W => ?_) (by rintro _ _ h; cases h)
      rw [run_eql_of (b := true) (by cases neg <;> rfl) (eq_of_succ fun d W => by simp [Op.equalIn, run_underlying eu])]
      cases neg <;> rfl
    · exact MSpec.no
  · obtain rfl := hx.nils
    obtain ⟨_, _, _, _, rfl⟩ := hy.slc
    split
    · rename_i e eu
      refine con _ (fun W => ?_) (by rintro _ _ h; cases h)
      rw [run_eql_of (b := false) (by cases neg <;> rfl) (eq_of_succ fun d W => by simp [Op.equalIn, run_underlying eu])]
      cases neg <;> rfl
    · exact MSpec.no
  · obtain ⟨_, _, _, _, rfl⟩ := hx.slc
    obtain rfl := hy.nils
    split
    · rename_i e eu
      refine con _ (fun W => ?_) (by rintro _ _ h; cases h)
      rw [run_eql_of (b := false) (by cases neg <;> rfl) (eq_of_succ fun d W => by simp [Op.equalIn, run_underlying eu])]
      cases neg <;> rfl
    · exact MSpec.no
  · rename_i n l c
    obtain rfl := hx.nils
    obtain ⟨_, _, hc, rfl⟩ := hy.vec
    split
    · rename_i e eu
      refine (cmp_spec hc (AtIs.c ρ 0)).bind ?_
      rintro r ρ1 h1 w1 l1 ⟨rfl, hp1, hr⟩
      refine MSpec.ret ⟨rfl, hp1, ⟨.bool (cmpB (if neg then .neq else .eql) (c.den ρ.is) 0), hr.svb, fun W => ?_⟩, by rintro _ _ h; cases h⟩
      have e2 : ∀ W : World, (Op.equal t (.slice none 0 0) (if c.den ρ.is = 0 then .slice none 0 0 else .slice (some ⟨(ρ.b n).1, (ρ.b n).2, none⟩) (l.den ρ.is).toNat (c.den ρ.is).toNat)).run P W = .ok (c.den ρ.is == 0) W := by
        refine eq_of_succ fun d W => ?_
        split
        · rename_i hz; simp [Op.equalIn, run_underlying eu, hz]
        · rename_i hz; simp [Op.equalIn, run_underlying eu, hz]
      rw [run_eql_of (b := c.den ρ.is == 0) (by by_cases hz : c.den ρ.is = 0 <;> simp only [hz, if_true, if_false] <;> cases neg <;> rfl) e2]
      cases neg <;> rfl
    · exact MSpec.no
  · rename_i n l c
    obtain rfl := hy.nils
    obtain ⟨_, _, hc, rfl⟩ := hx.vec
    split
    · rename_i e eu
      refine (cmp_spec hc (AtIs.c ρ 0)).bind ?_
      rintro r ρ1 h1 w1 l1 ⟨rfl, hp1, hr⟩
      refine MSpec.ret ⟨rfl, hp1, ⟨.bool (cmpB (if neg then .neq else .eql) (c.den ρ.is) 0), hr.svb, fun W => ?_⟩, by intro _ _ h; split at h <;> cases h⟩
      have e2 : ∀ W : World, (Op.equal t (if c.den ρ.is = 0 then .slice none 0 0 else .slice (some ⟨(ρ.b n).1, (ρ.b n).2, none⟩) (l.den ρ.is).toNat (c.den ρ.is).toNat) (.slice none 0 0)).run P W = .ok (c.den ρ.is == 0) W := by
        refine eq_of_succ fun d W => ?_
        split
        · rename_i hz; simp [Op.equalIn, run_underlying eu, hz]
        · rename_i hz; simp [Op.equalIn, run_underlying eu, hz]
      rw [run_eql_of (b := c.den ρ.is == 0) (by by_cases hz : c.den ρ.is = 0 <;> simp only [hz, if_true, if_false] <;> cases neg <;> rfl) e2]
      cases neg <;> rfl
    · exact MSpec.no
  · rename_i xs ys
    split
    · exact MSpec.no
    · rename_i hg
      have hg' : P.eqGuardType P.depth t = false := by simpa using hg
      obtain ⟨_, eu⟩ := hx.agg
      obtain ⟨_, ev⟩ := hy.agg
      refine (eqCells_spec 10000 hx hy).bind ?_
      rintro c ρ1 h1 w1 l1 ⟨rfl, hp1, b, hb, hrb⟩
      have hrun := run_eql_of (P := P) (neg := neg) (t := t) (u := u) (v := v) (b := b) (by subst eu; subst ev; cases neg <;> rfl) (fun W => show (Op.equalIn 10000 t u v).run P W = .ok b W from hrb W)
      cases neg
      · simp only [Bool.false_eq_true, if_false] at hrun ⊢
        exact MSpec.ret ⟨rfl, hp1, ⟨_, hb.svb, hrun⟩, fun _ _ _ _ => hg'⟩
      · simp only [if_true] at hrun ⊢
        refine (not_spec hb).bind ?_
        rintro d ρ2 h2 w2 l2 ⟨rfl, hp2, hd⟩
        refine MSpec.ret ⟨rfl, by rw [hp2, hp1], ⟨_, (show AtIs ρ2 d (b2i (!b)) by cases b <;> simpa [b2i] using hd).svb, hrun⟩, fun _ _ _ _ => hg'⟩
  · exact MSpec.no

theorem binM_spec {op : BinOp} {t : TypeId} {x y : Operand} {p q : SV} {u v : Value} (hx : SvIs ρ p u) (hy : SvIs ρ q v) :
    MSpec Φ C (binM P op t x y p q) ρ h w fun sv ρ' h' w' => w' = w ∧ h'.hp = h.hp ∧ DoesA P (do eqGuard op t x y u v; binOp op t u v) sv ρ' := by
  have put : ∀ (m : M SV), (∀ xs ys, u = .agg xs → v = .agg ys → P.eqGuardType P.depth t = false) → (u = .nilIface → v = .nilIface → isConstO x = true ∨ isConstO y = true) →
      MSpec Φ C m ρ h w (fun sv ρ' h' w' => w' = w ∧ h'.hp = h.hp ∧ DoesA P (binOp op t u v) sv ρ') →
      MSpec Φ C m ρ h w fun sv ρ' h' w' => w' = w ∧ h'.hp = h.hp ∧ DoesA P (do eqGuard op t x y u v; binOp op t u v) sv ρ' := by
    intro m g1 g2 hm
    refine hm.mono ?_
    rintro sv ρ' h' w' l ⟨rfl, hp, z, hz, hr⟩
    exact ⟨rfl, hp, z, hz, fun W => by simp [eqGuard_ok g1 g2, hr W]⟩
  have eqs : ∀ neg, op = (if neg then .neq else .eql) → (u = .nilIface → v = .nilIface → isConstO x = true ∨ isConstO y = true) →
      MSpec Φ C (eqlM P neg t p q) ρ h w fun sv ρ' h' w' => w' = w ∧ h'.hp = h.hp ∧ DoesA P (do eqGuard op t x y u v; binOp op t u v) sv ρ' := by
    intro neg ho g2
    refine (eqlM_spec (P := P) (neg := neg) (t := t) hx hy).mono ?_
    rintro sv ρ' h' w' l ⟨rfl, hp, ⟨z, hz, hr⟩, g1⟩
    refine ⟨rfl, hp, z, hz, fun W => ?_⟩
    have hr' := hr W
    unfold Eql at hr'
    rw [← ho] at hr'
    simp [eqGuard_ok g1 g2, hr']
  unfold binM
  split
  · rename_i k a k' b
    obtain ⟨ha, rfl⟩ := hx.int
    obtain ⟨hb, rfl⟩ := hy.int
    refine put _ (by rintro _ _ h; cases h) (by intro h; cases h) ?_
    split
    · exact shift_spec ha hb t
    · exact shift_spec ha hb t
    · rename_i n1 n2
      split
      · rename_i ek
        subst ek
        exact arith_spec ha hb (by intro h; exact n1 h) (by intro h; exact n2 h) t
      · exact MSpec.no
  · rename_i s s'
    have e1 := hx.raw
    have e2 := hy.raw
    split
    · exact eqs false rfl (by rw [e1]; intro h; cases h)
    · exact eqs true rfl (by rw [e1]; intro h; cases h)
    · split
      · exact MSpec.no
      · rename_i hs
        subst e1; subst e2
        refine put _ (by rintro _ _ h; cases h) (by intro h; cases h) (MSpec.ret ⟨rfl, rfl, .string (s ++ s'), ⟨rfl, rfl⟩, fun W => ?_⟩)
        simp only [binOp, Op.stringOp]
        rw [if_neg hs]; rfl
    · exact MSpec.no
  · have nil : ∀ {x : SV} {u : Value}, SvIs ρ x u → u = .nilIface → isNilIface x = true := by
      intro x u hx hu
      subst hu
      have := hx.2
      cases x
      case vec n l c => rw [SV.den] at this; split at this <;> cases this
      all_goals simp_all [SV.den, isNilIface]
    split
    · split
      · exact MSpec.no
      · rename_i hc
        refine eqs false rfl (fun hu hv => ?_)
        simp only [nil hx hu, nil hy hv, Bool.and_self, Bool.true_and, Bool.not_eq_true', Bool.not_eq_false, Bool.or_eq_true] at hc
        exact hc
    · split
      · exact MSpec.no
      · rename_i hc
        refine eqs true rfl (fun hu hv => ?_)
        simp only [nil hx hu, nil hy hv, Bool.and_self, Bool.true_and, Bool.not_eq_true', Bool.not_eq_false, Bool.or_eq_true] at hc
        exact hc
    · exact MSpec.no
end
end Go.Sx
