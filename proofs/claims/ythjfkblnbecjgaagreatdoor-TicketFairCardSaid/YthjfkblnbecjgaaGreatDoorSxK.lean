/- The operations that are no calls, all of them together. -/
import Derived.Test.YthjfkblnbecjgaaGreatDoorSxJ
import Derived.LaidEql
set_option linter.unusedVariables false
namespace Go.Sx

def lift (x : Option SV) : M SV :=
  match x with
  | some v => pure v
  | none => M.no 60

def constStr (x : SV) : Option ByteArray :=
  match x with
  | .raw (.string s) => some s
  | _ => none
def isNilIface : SV → Bool
  | .raw .nilIface => true
  | _ => false
def isIface : SV → Bool
  | .iface _ _ => true
  | _ => false
def bConst (b : Bool) : SV := .b (.c (b2i b))

/-- '==' and '!=' beyond integers. -/
def eqlM (P : Program) (neg : Bool) (t : TypeId) (u v : SV) : M SV :=
  match u, v with
  | .b a, .b b => (match P.underlying t with
    | some .bool => do
      let na ← mkI (.not a)
      let nb ← mkI (.not b)
      let c ← mkI (.cmp (if neg then .neq else .eql) na nb)
      pure (.b c)
    | _ => M.no 61)
  | .raw (.string s), .raw (.string s') => pure (bConst (if neg then !(s.toList == s'.toList) else (s.toList == s'.toList)))
  | .nilp, .nilp => (match P.underlying t with | some (.pointer _) => pure (bConst (!neg)) | _ => M.no 62)
  | .nilp, .ptr _ _ => (match P.underlying t with | some (.pointer _) => pure (bConst neg) | _ => M.no 62)
  | .ptr _ _, .nilp => (match P.underlying t with | some (.pointer _) => pure (bConst neg) | _ => M.no 62)
  | .raw .nilIface, .raw .nilIface => (match P.underlying t with | some (.interface _) => pure (bConst (!neg)) | _ => M.no 63)
  | .raw .nilIface, .iface _ _ => (match P.underlying t with | some (.interface _) => pure (bConst neg) | _ => M.no 63)
  | .iface _ _, .raw .nilIface => (match P.underlying t with | some (.interface _) => pure (bConst neg) | _ => M.no 63)
  | .nils, .nils => (match P.underlying t with | some (.slice _) => pure (bConst (!neg)) | _ => M.no 64)
  | .nils, .slc _ _ _ _ => (match P.underlying t with | some (.slice _) => pure (bConst neg) | _ => M.no 64)
  | .slc _ _ _ _, .nils => (match P.underlying t with | some (.slice _) => pure (bConst neg) | _ => M.no 64)
  | .nils, .vec _ _ c => (match P.underlying t with | some (.slice _) => (do let r ← mkI (.cmp (if neg then .neq else .eql) c (.c 0)); pure (.b r)) | _ => M.no 64)
  | .vec _ _ c, .nils => (match P.underlying t with | some (.slice _) => (do let r ← mkI (.cmp (if neg then .neq else .eql) c (.c 0)); pure (.b r)) | _ => M.no 64)
  | .agg xs, .agg ys => if P.eqGuardType P.depth t then M.no 65 else do
      let c ← eqCells P 10000 t (.agg xs) (.agg ys)
      if neg then (do let d ← mkI (.not c); pure (.b d)) else pure (.b c)
  | _, _ => M.no 66
def isConstO : Operand → Bool
  | .const _ => true
  | _ => false
def binM (P : Program) (op : BinOp) (t : TypeId) (x y : Operand) (u v : SV) : M SV :=
  match u, v with
  | .i k a, .i k' b => (match op with
    | .shl => shiftM op k a b
    | .shr => shiftM op k a b
    | _ => if k = k' then arith op k a b else M.no 67)
  | .raw (.string s), .raw (.string s') => (match op with
    | .eql => eqlM P false t u v
    | .neq => eqlM P true t u v
    | .add => if ((s.size + s'.size : Nat) : Int) > IntKind.i64.max then M.no 68 else pure (.raw (.string (s ++ s')))
    | _ => M.no 69)
  | u, v => (match op with
    | .eql => if isNilIface u && isNilIface v && !(isConstO x || isConstO y) then M.no 70 else eqlM P false t u v
    | .neq => if isNilIface u && isNilIface v && !(isConstO x || isConstO y) then M.no 70 else eqlM P true t u v
    | _ => M.no 71)

section
variable {Φ : Phi} {C : Ctx} {ρ : Env} {h : H} {w : World} {P : Program}

theorem bConst_is (ρ : Env) (b : Bool) : SvIs ρ (bConst b) (.bool b) := (AtIs.c ρ (b2i b)).svb
theorem SvIs.raw {ρ : Env} {u v : Value} (h : SvIs ρ (.raw u) v) : v = u := by rw [← h.2]; rfl
theorem SvIs.nilp {ρ : Env} {v : Value} (h : SvIs ρ .nilp v) : v = .pointer none := by rw [← h.2]; rfl
theorem SvIs.nils {ρ : Env} {v : Value} (h : SvIs ρ .nils v) : v = .slice none 0 0 := by rw [← h.2]; rfl
theorem SvIs.ptr {ρ : Env} {n : Nat} {o : At} {v : Value} (h : SvIs ρ (.ptr n o) v) : n < ρ.bs.length ∧ AtIs ρ o (o.den ρ.is) ∧ v = .pointer (some (ρ.at n o)) := by
  have h1 := h.1
  simp only [SV.ok, Bool.and_eq_true, decide_eq_true_eq] at h1
  exact ⟨h1.1, ⟨h1.2, rfl⟩, by rw [← h.2]; rfl⟩
theorem SvIs.slc {ρ : Env} {n : Nat} {o l c : At} {v : Value} (h : SvIs ρ (.slc n o l c) v) :
    n < ρ.bs.length ∧ AtIs ρ o (o.den ρ.is) ∧ AtIs ρ l (l.den ρ.is) ∧ AtIs ρ c (c.den ρ.is) ∧ v = .slice (some (ρ.at n o)) (l.den ρ.is).toNat (c.den ρ.is).toNat := by
  have h1 := h.1
  simp only [SV.ok, Bool.and_eq_true, decide_eq_true_eq] at h1
  exact ⟨h1.1, ⟨h1.2.1, rfl⟩, ⟨h1.2.2.1, rfl⟩, ⟨h1.2.2.2, rfl⟩, by rw [← h.2]; rfl⟩
theorem SvIs.vec {ρ : Env} {n : Nat} {l c : At} {v : Value} (h : SvIs ρ (.vec n l c) v) :
    n < ρ.bs.length ∧ AtIs ρ l (l.den ρ.is) ∧ AtIs ρ c (c.den ρ.is) ∧ v = if c.den ρ.is = 0 then .slice none 0 0 else .slice (some ⟨(ρ.b n).1, (ρ.b n).2, none⟩) (l.den ρ.is).toNat (c.den ρ.is).toNat := by
  have h1 := h.1
  simp only [SV.ok, Bool.and_eq_true, decide_eq_true_eq] at h1
  exact ⟨h1.1, ⟨h1.2.1, rfl⟩, ⟨h1.2.2, rfl⟩, by rw [← h.2, SV.den]⟩
theorem SvIs.iface {ρ : Env} {t : TypeId} {x : SV} {v : Value} (h : SvIs ρ (.iface t x) v) : SvIs ρ x (SV.den ρ x) ∧ v = .iface t (SV.den ρ x) :=
  ⟨⟨by have := h.1; rwa [SV.ok] at this, rfl⟩, by rw [← h.2, SV.den]⟩

/-- The guard ahead of '==' lets it by. -/
theorem eqGuard_ok {op : BinOp} {t : TypeId} {x y : Operand} {u v : Value} (h1 : ∀ xs ys, u = .agg xs → v = .agg ys → P.eqGuardType P.depth t = false)
    (h2 : u = .nilIface → v = .nilIface → isConstO x = true ∨ isConstO y = true) (w : World) : (eqGuard op t x y u v).run P w = .ok () w := by
  cases op <;> first
    | rfl
    | (unfold eqGuard
       simp only [Bool.not_true, Bool.false_eq_true, if_false]
       split
       · rcases h2 rfl rfl with hc | hc
         · cases x <;> simp_all [isConstO]
         · cases y <;> simp_all [isConstO]
       · rename_i xs ys
         simp [run_program, h1 xs ys rfl rfl]
       · rfl)

def Eql (P : Program) (neg : Bool) (t : TypeId) (u v : Value) : Sem Value := binOp (if neg then .neq else .eql) t u v

theorem run_eql_of {neg : Bool} {t : TypeId} {u v : Value} {b : Bool} (hb : binOp (if neg then .neq else .eql) t u v = (if neg then (do pure (.bool (!(← Op.equal t u v)))) else (do pure (.bool (← Op.equal t u v)))))
    (he : ∀ W : World, (Op.equal t u v).run P W = .ok b W) (W : World) : (Eql P neg t u v).run P W = .ok (.bool (if neg then !b else b)) W := by
  unfold Eql
  rw [hb]
  cases neg <;> simp [he]

theorem eq_of_succ {t : TypeId} {u v : Value} {b : Bool} (he : ∀ d W, (Op.equalIn (d + 1) t u v).run P W = .ok b W) : ∀ W : World, (Op.equal t u v).run P W = .ok b W := fun W => he 9999 W
theorem eqlM_spec {neg : Bool} {t : TypeId} {x y : SV} {u v : Value} (hx : SvIs ρ x u) (hy : SvIs ρ y v) :
    MSpec Φ C (eqlM P neg t x y) ρ h w fun sv ρ' h' w' => w' = w ∧ h'.hp = h.hp ∧ DoesA P (Eql P neg t u v) sv ρ' ∧
      (∀ xs ys, u = .agg xs → v = .agg ys → P.eqGuardType P.depth t = false) := by
  have con : ∀ b : Bool, (∀ W : World, (Eql P neg t u v).run P W = .ok (.bool b) W) → (∀ xs ys, u = .agg xs → v = .agg ys → P.eqGuardType P.depth t = false) →
      MSpec Φ C (pure (bConst b) : M SV) ρ h w fun sv ρ' h' w' => w' = w ∧ h'.hp = h.hp ∧ DoesA P (Eql P neg t u v) sv ρ' ∧
      (∀ xs ys, u = .agg xs → v = .agg ys → P.eqGuardType P.depth t = false) :=
    fun b hb hg => MSpec.ret ⟨rfl, rfl, ⟨_, bConst_is ρ b, hb⟩, hg⟩
  unfold eqlM
  split
  · rename_i a b
    obtain ⟨ha, rfl⟩ := hx.bool
    obtain ⟨hb, rfl⟩ := hy.bool
    split
    · rename_i eu
      refine (not_spec ha).bind ?_
      rintro na ρ1 h1 w1 l1 ⟨rfl, hp1, hna⟩
      refine (not_spec (hb.mono l1)).bind ?_
      rintro nb ρ2 h2 w2 l2 ⟨rfl, hp2, hnb⟩
      refine (cmp_spec (hna.mono l2) hnb).bind ?_
      rintro r ρ3 h3 w3 l3 ⟨rfl, hp3, hr⟩
      refine MSpec.ret ⟨rfl, by rw [hp3, hp2, hp1], ⟨_, hr.svb, fun W => ?_⟩, by rintro _ _ h; cases h⟩
      unfold Eql
      generalize At.den ρ.is a = p
      generalize At.den ρ.is b = q
      cases neg
      · simp only [Bool.false_eq_true, if_false]
        rw [run_eql_bool _ _ _ _ eu]
        cases hp : (p == 0) <;> cases hq : (q == 0) <;> simp [bne, hp, hq, cmpB, b2i]
      · simp only [if_true]
        rw [run_neq_bool _ _ _ _ eu]
        cases hp : (p == 0) <;> cases hq : (q == 0) <;> simp [bne, hp, hq, cmpB, b2i]
    · exact MSpec.no
  · rename_i s s'
    obtain rfl := hx.raw
    obtain rfl := hy.raw
    refine con _ (fun W => ?_) (by rintro _ _ h; cases h)
    unfold Eql
    cases neg <;> simp [binOp, Op.stringOp]
  · obtain rfl := hx.nilp
    obtain rfl := hy.nilp
    split
    · rename_i e eu
      refine con _ (fun W => ?_) (by rintro _ _ h; cases h)
      rw [run_eql_of (b := true) (by cases neg <;> rfl) (eq_of_succ fun d W => by simp [Op.equalIn, run_underlying eu])]
      cases neg <;> rfl
    · exact MSpec.no
  · obtain rfl := hx.nilp
    obtain ⟨_, _, rfl⟩ := hy.ptr
    split
    · rename_i e eu
      refine con _ (fun W => ?_) (by rintro _ _ h; cases h)
      rw [run_eql_of (b := false) (by cases neg <;> rfl) (eq_of_succ fun d W => by simp [Op.equalIn, run_underlying eu])]
      cases neg <;> rfl
    · exact MSpec.no
  · obtain ⟨_, _, rfl⟩ := hx.ptr
    obtain rfl := hy.nilp
    split
    · rename_i e eu
      refine con _ (fun W => ?_) (by rintro _ _ h; cases h)
      rw [run_eql_of (b := false) (by cases neg <;> rfl) (eq_of_succ fun d W => by simp [Op.equalIn, run_underlying eu])]
      cases neg <;> rfl
    · exact MSpec.no
  · obtain rfl := hx.raw
    obtain rfl := hy.raw
    split
    · rename_i e eu
      refine con _ (fun W => ?_) (by rintro _ _ h; cases h)
      rw [run_eql_of (b := true) (by cases neg <;> rfl) (eq_of_succ fun d W => by simp [Op.equalIn, run_underlying eu])]
      cases neg <;> rfl
    · exact MSpec.no
  · obtain rfl := hx.raw
    obtain ⟨_, rfl⟩ := hy.iface
    split
    · rename_i e eu
      refine con _ (fun W => ?_) (by rintro _ _ h; cases h)
      rw [run_eql_of (b := false) (by cases neg <;> rfl) (eq_of_succ fun d W => by simp [Op.equalIn, run_underlying eu])]
      cases neg <;> rfl
    · exact MSpec.no
  · obtain ⟨_, rfl⟩ := hx.iface
    obtain rfl := hy.raw
    split
    · rename_i e eu
      refine con _ (fun W => ?_) (by rintro _ _ h; cases h)
      rw [run_eql_of (b := false) (by cases neg <;> rfl) (eq_of_succ fun d W => by simp [Op.equalIn, run_underlying eu])]
      cases neg <;> rfl
    · exact MSpec.no
  · obtain rfl := hx.nils
    obtain rfl := hy.nils
    split
    · rename_i e eu
      refine con _ (fun W => ?_) (by rintro _ _ h; cases h)
      rw [run_eql_of (b := true) (by cases neg <;> rfl) (eq_of_succ fun d W => by simp [Op.equalIn, run_underlying eu])]
      cases neg <;> rfl
    · exact MSpec.no
  · obtain rfl := hx.nils
    obtain ⟨_, _, _, _, rfl⟩ := hy.slc
    split
    · rename_i e eu
      refine con _ (fun W => ?_) (by rintro _ _ h; cases h)
      rw [run_eql_of (b := false) (by cases neg <;> rfl) (eq_of_succ fun d W => by simp [Op.equalIn, run_underlying eu])]
      cases neg <;> rfl
    · exact MSpec.no
  · obtain ⟨_, _, _, _, rfl⟩ := hx.slc
    obtain rfl := hy.nils
    split
    · rename_i e eu
      refine con _ (fun W => ?_) (by rintro _ _ h; cases h)
      rw [run_eql_of (b := false) (by cases neg <;> rfl) (eq_of_succ fun d W => by simp [Op.equalIn, run_underlying eu])]
      cases neg <;> rfl
    · exact MSpec.no
  · rename_i n l c
    obtain rfl := hx.nils
    obtain ⟨_, _, hc, rfl⟩ := hy.vec
    split
    · rename_i e eu
      refine (cmp_spec hc (AtIs.c ρ 0)).bind ?_
      rintro r ρ1 h1 w1 l1 ⟨rfl, hp1, hr⟩
      refine MSpec.ret ⟨rfl, hp1, ⟨.bool (cmpB (if neg then .neq else .eql) (c.den ρ.is) 0), hr.svb, fun W => ?_⟩, by rintro _ _ h; cases h⟩
      have e2 : ∀ W : World, (Op.equal t (.slice none 0 0) (if c.den ρ.is = 0 then .slice none 0 0 else .slice (some ⟨(ρ.b n).1, (ρ.b n).2, none⟩) (l.den ρ.is).toNat (c.den ρ.is).toNat)).run P W = .ok (c.den ρ.is == 0) W := by
        refine eq_of_succ fun d W => ?_
        split
        · rename_i hz; simp [Op.equalIn, run_underlying eu, hz]
        · rename_i hz; simp [Op.equalIn, run_underlying eu, hz]
      rw [run_eql_of (b := c.den ρ.is == 0) (by by_cases hz : c.den ρ.is = 0 <;> simp only [hz, if_true, if_false] <;> cases neg <;> rfl) e2]
      cases neg <;> rfl
    · exact MSpec.no
  · rename_i n l c
    obtain rfl := hy.nils
    obtain ⟨_, _, hc, rfl⟩ := hx.vec
    split
    · rename_i e eu
      refine (cmp_spec hc (AtIs.c ρ 0)).bind ?_
      rintro r ρ1 h1 w1 l1 ⟨rfl, hp1, hr⟩
      refine MSpec.ret ⟨rfl, hp1, ⟨.bool (cmpB (if neg then .neq else .eql) (c.den ρ.is) 0), hr.svb, fun W => ?_⟩, by intro _ _ h; split at h <;> cases h⟩
      have e2 : ∀ W : World, (Op.equal t (if c.den ρ.is = 0 then .slice none 0 0 else .slice (some ⟨(ρ.b n).1, (ρ.b n).2, none⟩) (l.den ρ.is).toNat (c.den ρ.is).toNat) (.slice none 0 0)).run P W = .ok (c.den ρ.is == 0) W := by
        refine eq_of_succ fun d W => ?_
        split
        · rename_i hz; simp [Op.equalIn, run_underlying eu, hz]
        · rename_i hz; simp [Op.equalIn, run_underlying eu, hz]
      rw [run_eql_of (b := c.den ρ.is == 0) (by by_cases hz : c.den ρ.is = 0 <;> simp only [hz, if_true, if_false] <;> cases neg <;> rfl) e2]
      cases neg <;> rfl
    · exact MSpec.no
  · rename_i xs ys
    split
    · exact MSpec.no
    · rename_i hg
      have hg' : P.eqGuardType P.depth t = false := by simpa using hg
      obtain ⟨_, eu⟩ := hx.agg
      obtain ⟨_, ev⟩ := hy.agg
      refine (eqCells_spec 10000 hx hy).bind ?_
      rintro c ρ1 h1 w1 l1 ⟨rfl, hp1, b, hb, hrb⟩
      have hrun := run_eql_of (P := P) (neg := neg) (t := t) (u := u) (v := v) (b := b) (by subst eu; subst ev; cases neg <;> rfl) (fun W => show (Op.equalIn 10000 t u v).run P W = .ok b W from hrb W)
      cases neg
      · simp only [Bool.false_eq_true, if_false] at hrun ⊢
        exact MSpec.ret ⟨rfl, hp1, ⟨_, hb.svb, hrun⟩, fun _ _ _ _ => hg'⟩
      · simp only [if_true] at hrun ⊢
        refine (not_spec hb).bind ?_
        rintro d ρ2 h2 w2 l2 ⟨rfl, hp2, hd⟩
        refine MSpec.ret ⟨rfl, by rw [hp2, hp1], ⟨_, (show AtIs ρ2 d (b2i (!b)) by cases b <;> simpa [b2i] using hd).svb, hrun⟩, fun _ _ _ _ => hg'⟩
  · exact MSpec.no

theorem binM_spec {op : BinOp} {t : TypeId} {x y : Operand} {p q : SV} {u v : Value} (hx : SvIs ρ p u) (hy : SvIs ρ q v) :
    MSpec Φ C (binM P op t x y p q) ρ h w fun sv ρ' h' w' => w' = w ∧ h'.hp = h.hp ∧ DoesA P (do eqGuard op t x y u v; binOp op t u v) sv ρ' := by
  have put : ∀ (m : M SV), (∀ xs ys, u = .agg xs → v = .agg ys → P.eqGuardType P.depth t = false) → (u = .nilIface → v = .nilIface → isConstO x = true ∨ isConstO y = true) →
      MSpec Φ C m ρ h w (fun sv ρ' h' w' => w' = w ∧ h'.hp = h.hp ∧ DoesA P (binOp op t u v) sv ρ') →
      MSpec Φ C m ρ h w fun sv ρ' h' w' => w' = w ∧ h'.hp = h.hp ∧ DoesA P (do eqGuard op t x y u v; binOp op t u v) sv ρ' := by
    intro m g1 g2 hm
    refine hm.mono ?_
    rintro sv ρ' h' w' l ⟨rfl, hp, z, hz, hr⟩
    exact ⟨rfl, hp, z, hz, fun W => by simp [eqGuard_ok g1 g2, hr W]⟩
  have eqs : ∀ neg, op = (if neg then .neq else .eql) → (u = .nilIface → v = .nilIface → isConstO x = true ∨ isConstO y = true) →
      MSpec Φ C (eqlM P neg t p q) ρ h w fun sv ρ' h' w' => w' = w ∧ h'.hp = h.hp ∧ DoesA P (do eqGuard op t x y u v; binOp op t u v) sv ρ' := by
    intro neg ho g2
    refine (eqlM_spec (P := P) (neg := neg) (t := t) hx hy).mono ?_
    rintro sv ρ' h' w' l ⟨rfl, hp, ⟨z, hz, hr⟩, g1⟩
    refine ⟨rfl, hp, z, hz, fun W => ?_⟩
    have hr' := hr W
    unfold Eql at hr'
    rw [← ho] at hr'
    simp [eqGuard_ok g1 g2, hr']
  unfold binM
  split
  · rename_i k a k' b
    obtain ⟨ha, rfl⟩ := hx.int
    obtain ⟨hb, rfl⟩ := hy.int
    refine put _ (by rintro _ _ h; cases h) (by intro h; cases h) ?_
    split
    · exact shift_spec ha hb t
    · exact shift_spec ha hb t
    · rename_i n1 n2
      split
      · rename_i ek
        subst ek
        exact arith_spec ha hb (by intro h; exact n1 h) (by intro h; exact n2 h) t
      · exact MSpec.no
  · rename_i s s'
    have e1 := hx.raw
    have e2 := hy.raw
    split
    · exact eqs false rfl (by rw [e1]; intro h; cases h)
    · exact eqs true rfl (by rw [e1]; intro h; cases h)
    · split
      · exact MSpec.no
      · rename_i hs
        subst e1; subst e2
        refine put _ (by rintro _ _ h; cases h) (by intro h; cases h) (MSpec.ret ⟨rfl, rfl, .string (s ++ s'), ⟨rfl, rfl⟩, fun W => ?_⟩)
        simp only [binOp, Op.stringOp]
        rw [if_neg hs]; rfl
    · exact MSpec.no
  · have nil : ∀ {x : SV} {u : Value}, SvIs ρ x u → u = .nilIface → isNilIface x = true := by
      intro x u hx hu
      subst hu
      have := hx.2
      cases x
      case vec n l c => rw [SV.den] at this; split at this <;> cases this
      all_goals simp_all [SV.den, isNilIface]
    split
    · split
      · exact MSpec.no
      · rename_i hc
        refine eqs false rfl (fun hu hv => ?_)
        simp only [nil hx hu, nil hy hv, Bool.and_self, Bool.true_and, Bool.not_eq_true', Bool.not_eq_false, Bool.or_eq_true] at hc
        exact hc
    · split
      · exact MSpec.no
      · rename_i hc
        refine eqs true rfl (fun hu hv => ?_)
        simp only [nil hx hu, nil hy hv, Bool.and_self, Bool.true_and, Bool.not_eq_true', Bool.not_eq_false, Bool.or_eq_true] at hc
        exact hc
    · exact MSpec.no
end
end Go.Sx
