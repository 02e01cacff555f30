/- Arithmetic, comparisons, conversions. -/
import Derived.Test.YthjfkblnbecjgaaGreatDoorSxG
set_option linter.unusedVariables false
namespace Go.Sx
section
variable {Φ : Phi} {C : Ctx} {ρ : Env} {h : H} {w : World} {P : Program}

theorem SvIs.int {ρ : Env} {k : IntKind} {a : At} {v : Value} (h : SvIs ρ (.i k a) v) : AtIs ρ a (a.den ρ.is) ∧ v = .int k (a.den ρ.is) :=
  ⟨⟨by have := h.1; simpa [SV.ok] using this, rfl⟩, by rw [← h.2]; rfl⟩
theorem SvIs.bool {ρ : Env} {a : At} {v : Value} (h : SvIs ρ (.b a) v) : AtIs ρ a (a.den ρ.is) ∧ v = .bool (a.den ρ.is != 0) :=
  ⟨⟨by have := h.1; simpa [SV.ok] using this, rfl⟩, by rw [← h.2]; rfl⟩
theorem AtIs.svi {ρ : Env} {k : IntKind} {a : At} {n : Int} (h : AtIs ρ a n) : SvIs ρ (.i k a) (.int k n) := ⟨by simpa [SV.ok] using h.1, by simp [SV.den, h.2]⟩
theorem AtIs.svb {ρ : Env} {a : At} {b : Bool} (h : AtIs ρ a (b2i b)) : SvIs ρ (.b a) (.bool b) := ⟨by simpa [SV.ok] using h.1, by simp only [SV.den, h.2]; cases b <;> simp [b2i]⟩

def arith (op : BinOp) (k : IntKind) (a b : At) : M SV :=
  match op with
  | .add => do let x ← mkI (.add a b); let y ← mkI (.wr k x); pure (.i k y)
  | .sub => do let x ← mkI (.sub a b); let y ← mkI (.wr k x); pure (.i k y)
  | .mul => do let x ← mkI (.mul a b); let y ← mkI (.wr k x); pure (.i k y)
  | .quo => do need .neq b (.c 0); let x ← mkI (.quo k a b); pure (.i k x)
  | .rem => do need .neq b (.c 0); let x ← mkI (.rem a b); pure (.i k x)
  | .and | .or | .xor | .andNot => do let x ← mkI (.bit op k a b); pure (.i k x)
  | .eql | .neq | .lss | .leq | .gtr | .geq => do let x ← mkI (.cmp op a b); pure (.b x)
  | _ => M.no 30

theorem okB2 {ni nl : Nat} {a b : At} (ha : a.lt ni = true) (hb : b.lt ni = true) (o : IOp) (ho : o.atoms = [a, b]) (hl : o.listy = false) : o.okB ni nl = true := by
  simp only [IOp.okB, ho, List.all_cons, List.all_nil, ha, hb, Bool.and_true, Bool.true_and]
  cases o <;> simp_all [IOp.listy]
theorem okB1 {ni nl : Nat} {a : At} (ha : a.lt ni = true) (o : IOp) (ho : o.atoms = [a]) (hl : o.listy = false) : o.okB ni nl = true := by
  simp only [IOp.okB, ho, List.all_cons, List.all_nil, ha, Bool.and_true, Bool.true_and]
  cases o <;> simp_all [IOp.listy]
theorem okB3 {ni nl : Nat} {a b c : At} (ha : a.lt ni = true) (hb : b.lt ni = true) (hc : c.lt ni = true) (o : IOp) (ho : o.atoms = [a, b, c]) (hl : o.listy = false) : o.okB ni nl = true := by
  simp only [IOp.okB, ho, List.all_cons, List.all_nil, ha, hb, hc, Bool.and_true, Bool.true_and]
  cases o <;> simp_all [IOp.listy]

/-- Same memory, a value. -/
def Val (w : World) (h : H) (v : Value) : SV → Env → H → World → Prop := fun sv ρ' h' w' => w' = w ∧ h'.hp = h.hp ∧ SvIs ρ' sv v

theorem arith_spec {op : BinOp} {k : IntKind} {a b : At} {x y : Int} (ha : AtIs ρ a x) (hb : AtIs ρ b y) (hs : op ≠ .shl) (hs' : op ≠ .shr) (t : TypeId) :
    MSpec Φ C (arith op k a b) ρ h w fun sv ρ' h' w' => w' = w ∧ h'.hp = h.hp ∧ DoesA P (binOp op t (.int k x) (.int k y)) sv ρ' := by
  have wr : ∀ (o : IOp), o.atoms = [a, b] → o.listy = false → ∀ z, o.den ρ.is ρ.ls = z →
      MSpec Φ C (do let x ← mkI o; let y ← mkI (.wr k x); pure (.i k y) : M SV) ρ h w (Val w h (.int k (k.wrap z))) := by
    intro o h1 h2 z hz
    refine (mkI_ok (okB2 ha.1 hb.1 o h1 h2)).bind ?_
    rintro x1 ρ1 h1' w1 l1 ⟨rfl, hp1, hx1⟩
    rw [hz] at hx1
    refine (mkI_ok (okB1 hx1.1 (.wr k x1) rfl rfl)).bind ?_
    rintro y1 ρ2 h2' w2 l2 ⟨rfl, hp2, hy1⟩
    simp only [IOp.den, hx1.val] at hy1
    exact MSpec.ret ⟨rfl, by rw [hp2, hp1], hy1.svi⟩
  have one : ∀ (o : IOp), o.atoms = [a, b] → o.listy = false → ∀ z, o.den ρ.is ρ.ls = z →
      MSpec Φ C (do let x ← mkI o; pure (.i k x) : M SV) ρ h w (Val w h (.int k z)) := by
    intro o h1 h2 z hz
    refine (mkI_ok (okB2 ha.1 hb.1 o h1 h2)).bind ?_
    rintro x1 ρ1 h1' w1 l1 ⟨rfl, hp1, hx1⟩
    rw [hz] at hx1
    exact MSpec.ret ⟨rfl, hp1, hx1.svi⟩
  have div : ∀ (o : IOp), o.atoms = [a, b] → o.listy = false → ∀ z, o.den ρ.is ρ.ls = z → MSpec Φ C (do need .neq b (.c 0); let x ← mkI o; pure (.i k x) : M SV) ρ h w
      fun sv ρ' h' w' => y ≠ 0 ∧ Val w h (.int k z) sv ρ' h' w' := by
    intro o h1 h2 z hz
    refine (need_spec hb (AtIs.c ρ 0)).bind ?_
    rintro _ ρ1 h1' w1 l1 ⟨rfl, hp1, c1⟩
    simp only [cmpB, bne_iff_ne] at c1
    refine (mkI_ok (okB2 (ha.mono l1).1 (hb.mono l1).1 o h1 h2)).bind ?_
    rintro x1 ρ2 h2' w2 l2 ⟨rfl, hp2, hx1⟩
    have hz' : o.den ρ1.is ρ1.ls = z := by
      have := (OpIs.of (okB2 (nl := ρ.ls.length) ha.1 hb.1 o h1 h2)).mono l1
      rw [this.val, hz]
    rw [hz'] at hx1
    exact MSpec.ret ⟨c1, rfl, by rw [hp2, hp1], hx1.svi⟩
  have cmp : MSpec Φ C (do let x ← mkI (.cmp op a b); pure (.b x) : M SV) ρ h w (Val w h (.bool (cmpB op x y))) := by
    refine (mkI_ok (okB2 ha.1 hb.1 (.cmp op a b) rfl rfl)).bind ?_
    rintro x1 ρ1 h1' w1 l1 ⟨rfl, hp1, hx1⟩
    simp only [IOp.den, ha.val, hb.val] at hx1
    exact MSpec.ret ⟨rfl, hp1, hx1.svb⟩
  have fin : ∀ (s : Sem Value) (v : Value), (∀ W : World, s.run P W = .ok v W) → ∀ (m : M SV), MSpec Φ C m ρ h w (Val w h v) →
      MSpec Φ C m ρ h w fun sv ρ' h' w' => w' = w ∧ h'.hp = h.hp ∧ DoesA P s sv ρ' := by
    intro s v hs m hm
    refine hm.mono ?_
    rintro sv ρ' h' w' l ⟨rfl, hp, hv⟩
    exact ⟨rfl, hp, v, hv, hs⟩
  cases op <;> simp only [arith]
  case add => exact fin _ _ (fun W => by simp [binOp, Op.intArith]) _ (wr (.add a b) rfl rfl (x + y) (by simp [IOp.den, ha.val, hb.val]))
  case sub => exact fin _ _ (fun W => by simp [binOp, Op.intArith]) _ (wr (.sub a b) rfl rfl (x - y) (by simp [IOp.den, ha.val, hb.val]))
  case mul => exact fin _ _ (fun W => by simp [binOp, Op.intArith]) _ (wr (.mul a b) rfl rfl (x * y) (by simp [IOp.den, ha.val, hb.val]))
  case quo =>
    refine (div (.quo k a b) rfl rfl (k.wrap (x.tdiv y)) (by simp [IOp.den, ha.val, hb.val])).mono ?_
    rintro sv ρ' h' w' l ⟨hy, rfl, hp, hv⟩
    exact ⟨rfl, hp, _, hv, fun W => by simp [binOp, Op.intDiv, hy]⟩
  case rem =>
    refine (div (.rem a b) rfl rfl (x.tmod y) (by simp [IOp.den, ha.val, hb.val])).mono ?_
    rintro sv ρ' h' w' l ⟨hy, rfl, hp, hv⟩
    exact ⟨rfl, hp, _, hv, fun W => by simp [binOp, Op.intDiv, hy]⟩
  case and => exact fin _ _ (fun W => by simp [binOp, Op.intBits, bitDen]) _ (one (.bit .and k a b) rfl rfl (bitDen .and k x y) (by simp [IOp.den, ha.val, hb.val]))
  case or => exact fin _ _ (fun W => by simp [binOp, Op.intBits, bitDen]) _ (one (.bit .or k a b) rfl rfl (bitDen .or k x y) (by simp [IOp.den, ha.val, hb.val]))
  case xor => exact fin _ _ (fun W => by simp [binOp, Op.intBits, bitDen]) _ (one (.bit .xor k a b) rfl rfl (bitDen .xor k x y) (by simp [IOp.den, ha.val, hb.val]))
  case andNot => exact fin _ _ (fun W => by simp [binOp, Op.intBits, bitDen]) _ (one (.bit .andNot k a b) rfl rfl (bitDen .andNot k x y) (by simp [IOp.den, ha.val, hb.val]))
  case shl => exact absurd rfl hs
  case shr => exact absurd rfl hs'
  case eql => exact fin _ _ (fun W => by simp [binOp, Op.intCmp, cmpB]) _ cmp
  case neq => exact fin _ _ (fun W => by simp [binOp, Op.intCmp, cmpB]) _ cmp
  case lss => exact fin _ _ (fun W => by simp [binOp, Op.intCmp, cmpB]) _ cmp
  case leq => exact fin _ _ (fun W => by simp [binOp, Op.intCmp, cmpB]) _ cmp
  case gtr => exact fin _ _ (fun W => by simp [binOp, Op.intCmp, cmpB]) _ cmp
  case geq => exact fin _ _ (fun W => by simp [binOp, Op.intCmp, cmpB]) _ cmp

def shiftM (op : BinOp) (k : IntKind) (a b : At) : M SV := do
  need .geq b (.c 0)
  match op with
  | .shl => do let x ← mkI (.shl k a b); pure (.i k x)
  | .shr => do let x ← mkI (.shr k a b); pure (.i k x)
  | _ => M.no 31
theorem shift_spec {op : BinOp} {k yk : IntKind} {a b : At} {x y : Int} (ha : AtIs ρ a x) (hb : AtIs ρ b y) (t : TypeId) :
    MSpec Φ C (shiftM op k a b) ρ h w fun sv ρ' h' w' => w' = w ∧ h'.hp = h.hp ∧ DoesA P (binOp op t (.int k x) (.int yk y)) sv ρ' := by
  unfold shiftM
  refine (need_spec hb (AtIs.c ρ 0)).bind ?_
  rintro _ ρ1 h1' w1 l1 ⟨rfl, hp1, c1⟩
  simp only [cmpB, decide_eq_true_eq] at c1
  have hy : ¬ y < 0 := by omega
  cases op <;> simp only <;> first | exact MSpec.no | skip
  · refine (mkI_ok (okB2 (ha.mono l1).1 (hb.mono l1).1 (.shl k a b) rfl rfl)).bind ?_
    rintro x1 ρ2 h2' w2 l2 ⟨rfl, hp2, hx1⟩
    simp only [IOp.den, (ha.mono l1).val, (hb.mono l1).val] at hx1
    exact MSpec.ret ⟨rfl, by rw [hp2, hp1], _, hx1.svi, fun W => by simp [binOp, Op.shift, hy]⟩
  · refine (mkI_ok (okB2 (ha.mono l1).1 (hb.mono l1).1 (.shr k a b) rfl rfl)).bind ?_
    rintro x1 ρ2 h2' w2 l2 ⟨rfl, hp2, hx1⟩
    simp only [IOp.den, (ha.mono l1).val, (hb.mono l1).val] at hx1
    exact MSpec.ret ⟨rfl, by rw [hp2, hp1], _, hx1.svi, fun W => by simp [binOp, Op.shift, hy]⟩
end
end Go.Sx
