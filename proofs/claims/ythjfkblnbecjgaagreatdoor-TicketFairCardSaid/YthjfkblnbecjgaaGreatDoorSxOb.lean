/- More operations: pointers and interfaces compared, type assertions. -/
import Derived.Test.YthjfkblnbecjgaaGreatDoorSxO
set_option linter.unusedVariables false
namespace Go.Sx

/-- A block that stands in the heap, cell by cell. -/
def H.solid (h : H) : Blk → Bool
  | .cells .. => true
  | .arr _ _ _ sz _ => (match cmpR .neq (h.range sz) (some (0, 0)) with | some b => b | none => false)
  | _ => false
/-- Two addresses in blocks that are known: the same, another one, or not known to be either. -/
def ptrSame (h : H) (n : Nat) (o : At) (m : Nat) (p : At) : Option Bool :=
  if n = m then (if o = p then some true else match o, p with
    | .c x, .c y => if 0 ≤ x ∧ 0 ≤ y then (match h.blk n with
      | some b => if h.solid b then some false else none
      | none => none) else none
    | _, _ => none)
  else match h.blk n, h.blk m with
    | some a, some b => if h.solid a && h.solid b then some false else none
    | _, _ => none
def pteeT (P : Program) (t : TypeId) : Option TypeId :=
  match P.underlying t with
  | some (.pointer e) => (match P.info? e with
    | some i => if i.size ≠ 0 then some e else none
    | none => none)
  | _ => none
def eqPtrs (P : Program) (h : H) (t : TypeId) (x y : SV) : Option Bool :=
  match pteeT P t, x, y with
  | some _, .ptr n o, .ptr m p => ptrSame h n o m p
  | _, _, _ => none
def eqIfaces (P : Program) (h : H) (t : TypeId) (x y : SV) : Option Bool :=
  match P.underlying t, x, y with
  | some (.interface _), .iface a u, .iface b v =>
    if a ≠ b then some false else
    match P.info? a with
    | some i => if i.comparable then eqPtrs P h a u v else none
    | none => none
  | some (.interface _), .raw .nilIface, .iface _ _ => some false
  | some (.interface _), .iface _ _, .raw .nilIface => some false
  | _, _, _ => none
def eqSome (P : Program) (h : H) (t : TypeId) (x y : SV) : Option Bool := (eqPtrs P h t x y).or (eqIfaces P h t x y)

def ifaceMisses (want : Array (String × TypeId)) (got : Array Method) : Bool :=
  !(want.toList.all fun p => got.any fun m => m.name == p.1 && m.sig == p.2)
def isIfaceT (P : Program) (t : TypeId) : Option (Option (Array (String × TypeId))) :=
  match P.underlying t with
  | some (.interface ms) => some (some ms)
  | some _ => some none
  | none => none
/-- Whether an assertion holds, and the value. -/
def assertS (P : Program) (x : SV) (asserted : TypeId) : Option (Option SV) :=
  match isIfaceT P asserted, x with
  | some (some want), .raw .nilIface => some none
  | some (some want), .iface t v => (match P.info? t with
    | some i => if ifaceMisses want i.methods then some none else some (some (.iface t v))
    | none => none)
  | some none, .raw .nilIface => some none
  | some none, .iface t v => if t = asserted then some (some v) else some none
  | _, _ => none
def typeAssertM (P : Program) (x : SV) (asserted : TypeId) (ok : Bool) : M SV :=
  match assertS P x asserted with
  | some (some v) => if ok then pure (.tup [v, .b (.c 1)]) else pure v
  | some none => if ok then (match zeroT P asserted with
    | some z => pure (.tup [ofConst z, .b (.c 0)])
    | none => M.no 300) else M.no 301
  | none => M.no 302

def opX (P : Program) (ro : List (Addr × Value)) (ev : Operand → Option SV) (o : Oper) : M SV := fun h k =>
  match o.op with
  | .binOp .eql t x y _ => (match ev x, ev y with
    | some u, some v => (match eqSome P h t u v with
      | some b => k (bConst b) h
      | none => opM P ro ev o h k)
    | _, _ => opM P ro ev o h k)
  | .binOp .neq t x y _ => (match ev x, ev y with
    | some u, some v => (match eqSome P h t u v with
      | some b => k (bConst (!b)) h
      | none => opM P ro ev o h k)
    | _, _ => opM P ro ev o h k)
  | .typeAssert x _ asserted ok => (match ev x with
    | some u => typeAssertM P u asserted ok h k
    | none => .fail 303)
  | _ => opM P ro ev o h k

section
variable {Φ : Phi} {C : Ctx} {ρ : Env} {h : H} {w : World} {P : Program}

theorem at_inj {n m : Nat} {o p : At} (h : ρ.at n o = ρ.at m p) : (ρ.b n).1 = (ρ.b m).1 ∧ (ρ.b n).2 + (o.den ρ.is).toNat = (ρ.b m).2 + (p.den ρ.is).toNat := by
  simp only [Env.at, Addr.mk.injEq] at h
  exact ⟨h.1, h.2.1⟩
theorem solid_cells (f : Facts C ρ h w) {n : Nat} {b : Blk} (hb : BlkOk C ρ w n b) (ho : h.solid b = true) : (∃ ca t, w.heap[(ρ.b n).1]? = some (.cells ca t (0, 0))) ∧ b.phys ρ n = [(ρ.b n).1] := by
  have hh := hb.holds
  cases b with
  | cells xs sz el => obtain ⟨_, rest, h, _⟩ := hh; exact ⟨⟨_, _, h⟩, rfl⟩
  | arr ks l len sz el =>
    simp only [H.solid] at ho
    split at ho
    · rename_i b eb
      subst ho
      have := cmpR_ok (y := 0) (range_ok f sz) (by simp [inR]) eb
      simp only [cmpB, bne_iff_ne] at this
      obtain ⟨_, rest, h, _⟩ := hh.2.2 this
      exact ⟨⟨_, _, h⟩, by simp [Blk.phys, this]⟩
    · cases ho
  | ro ks l len => cases ho
  | map ks vs => cases ho
theorem ptrSame_run (r : RepH C ρ h w) {n m : Nat} {o p : At} {b : Bool} (e : ptrSame h n o m p = some b) : (sameAddr (ρ.at n o) (ρ.at m p)).run P w = .ok b w := by
  have f : Facts C ρ h w := r.fact
  unfold ptrSame at e
  split at e
  · rename_i hnm
    subst hnm
    split at e
    · rename_i hop; subst hop; cases e; exact run_sameAddr_same w _
    · rename_i hop
      split at e
      · rename_i x y
        split at e
        · rename_i hxy
          split at e
          · rename_i bl eb
            split at e
            · rename_i ho
              cases e
              obtain ⟨⟨ca, t, hc⟩, _⟩ := solid_cells f (f.heap _ (blk_mem eb)) ho
              refine run_sameAddr_other w (fun he => ?_) hc hc
              have := (at_inj he).2
              simp only [At.den_c] at this
              apply hop
              congr 1
              omega
            · cases e
          · cases e
        · cases e
      · cases e
  · rename_i hnm
    split at e
    · rename_i a b' ea eb
      split at e
      · rename_i ho
        cases e
        simp only [Bool.and_eq_true] at ho
        obtain ⟨⟨ca, ta, hca⟩, pa⟩ := solid_cells f (f.heap _ (blk_mem ea)) ho.1
        obtain ⟨⟨cb, tb, hcb⟩, pb⟩ := solid_cells f (f.heap _ (blk_mem eb)) ho.2
        refine run_sameAddr_other w (fun he => ?_) hca hcb
        have := flat_inj f.nodup (a := (n, a)) (b := (m, b')) (p := (ρ.b n).1) (blk_mem ea) (blk_mem eb) (by simp only [pa]; exact List.mem_singleton.2 rfl) (by simp only [pb, ← (at_inj he).1]; exact List.mem_singleton.2 rfl)
        exact hnm (Prod.mk.inj this).1
      · cases e
    · cases e
theorem eqPtrs_run (r : RepH C ρ h w) {t : TypeId} {x y : SV} {u v : Value} {b : Bool} (hx : SvIs ρ x u) (hy : SvIs ρ y v) (e : eqPtrs P h t x y = some b) (d : Nat) : (Op.equalIn (d + 1) t u v).run P w = .ok b w := by
  unfold eqPtrs at e
  split at e
  · rename_i el n o m p et
    obtain ⟨_, _, rfl⟩ := hx.ptr
    obtain ⟨_, _, rfl⟩ := hy.ptr
    unfold pteeT at et
    split at et
    · rename_i el' eu
      split at et
      · rename_i i ei
        split at et
        · rename_i hs
          simp [Op.equalIn, run_underlying eu, sizeOf, typeInfo, ei, hs, ptrSame_run r e]
        · cases et
      · cases et
    · cases et
  · cases e
theorem eqIfaces_run (r : RepH C ρ h w) {t : TypeId} {x y : SV} {u v : Value} {b : Bool} (hx : SvIs ρ x u) (hy : SvIs ρ y v) (e : eqIfaces P h t x y = some b) (d : Nat) : (Op.equalIn (d + 2) t u v).run P w = .ok b w := by
  unfold eqIfaces at e
  split at e
  · rename_i ms a x' b' y' eu
    obtain ⟨hx', rfl⟩ := hx.iface
    obtain ⟨hy', rfl⟩ := hy.iface
    split at e
    · rename_i hab
      cases e
      simp [Op.equalIn, run_underlying eu, hab]
    · rename_i hab
      have hab' : a = b' := by simpa using hab
      subst hab'
      split at e
      · rename_i i ei
        split at e
        · rename_i hc
          have := eqPtrs_run r hx' hy' e d
          rw [Op.equalIn]
          simp [run_underlying eu, typeInfo, ei, hc, this]
        · cases e
      · cases e
  · rename_i ms a x' eu
    obtain rfl := hx.raw
    obtain ⟨_, rfl⟩ := hy.iface
    cases e
    simp [Op.equalIn, run_underlying eu]
  · rename_i ms a x' eu
    obtain ⟨_, rfl⟩ := hx.iface
    obtain rfl := hy.raw
    cases e
    simp [Op.equalIn, run_underlying eu]
  · cases e
theorem eqSome_run (r : RepH C ρ h w) {t : TypeId} {x y : SV} {u v : Value} {b : Bool} (hx : SvIs ρ x u) (hy : SvIs ρ y v) (e : eqSome P h t x y = some b) : (Op.equal t u v).run P w = .ok b w := by
  unfold eqSome at e
  cases e1 : eqPtrs P h t x y with
  | some b' => rw [e1] at e; cases e; exact eqPtrs_run r hx hy e1 9999
  | none => rw [e1] at e; exact eqIfaces_run r hx hy e 9998
theorem eqSome_vals {t : TypeId} {x y : SV} {u v : Value} {b : Bool} (hx : SvIs ρ x u) (hy : SvIs ρ y v) (e : eqSome P h t x y = some b) (w : World) (neg : Bool) (ox oy : Operand) :
    (do eqGuard (if neg then .neq else .eql) t ox oy u v; binOp (if neg then .neq else .eql) t u v : Sem Value).run P w = (if neg then (do pure (Value.bool (!(← Op.equal t u v)))) else (do pure (Value.bool (← Op.equal t u v))) : Sem Value).run P w := by
  have hu : (∃ a c, u = .pointer a ∧ v = .pointer c) ∨ (∃ a b c d, u = .iface a b ∧ v = .iface c d) ∨ (u = .nilIface ∧ ∃ a b, v = .iface a b) ∨ (v = .nilIface ∧ ∃ a b, u = .iface a b) := by
    unfold eqSome at e
    cases e1 : eqPtrs P h t x y with
    | some b' =>
      unfold eqPtrs at e1
      split at e1
      · obtain ⟨_, _, rfl⟩ := hx.ptr; obtain ⟨_, _, rfl⟩ := hy.ptr; exact .inl ⟨_, _, rfl, rfl⟩
      · cases e1
    | none =>
      rw [e1] at e
      simp only [Option.none_or] at e
      unfold eqIfaces at e
      split at e
      · obtain ⟨_, rfl⟩ := hx.iface; obtain ⟨_, rfl⟩ := hy.iface; exact .inr (.inl ⟨_, _, _, _, rfl, rfl⟩)
      · obtain rfl := hx.raw; obtain ⟨_, rfl⟩ := hy.iface; exact .inr (.inr (.inl ⟨rfl, _, _, rfl⟩))
      · obtain ⟨_, rfl⟩ := hx.iface; obtain rfl := hy.raw; exact .inr (.inr (.inr ⟨rfl, _, _, rfl⟩))
      · cases e
  rcases hu with ⟨a, c, rfl, rfl⟩ | ⟨a, b', c, d, rfl, rfl⟩ | ⟨rfl, a, b', rfl⟩ | ⟨rfl, a, b', rfl⟩ <;> cases neg <;> simp [eqGuard, binOp]

theorem part_ne {p : String → Bool} {a : String} {l un ex : List String} (hq : List.partition p (a :: l) = (un, ex)) : un ≠ [] ∨ ex ≠ [] := by
  rw [List.partition_eq_filter_filter] at hq
  have h1 := (Prod.mk.inj hq).1
  have h2 := (Prod.mk.inj hq).2
  cases hc : p a with
  | true => left; rw [← h1, List.filter_cons_of_pos hc]; exact List.cons_ne_nil _ _
  | false => right; rw [← h2, List.filter_cons_of_pos (by simp [hc])]; exact List.cons_ne_nil _ _
theorem misses_ok {want : Array (String × TypeId)} {got : Array Method} : ifaceMisses want got = (Instr.missingMethod want got).isSome := by
  have key : ∀ l : List String, l ≠ [] → (Instr.least l).isSome = true := by
    intro l hl; cases l with
    | nil => exact absurd rfl hl
    | cons a l => rfl
  unfold ifaceMisses Instr.missingMethod
  simp only
  generalize hm : (List.filter (fun x => match x with | (name, sig) => !got.any fun m => m.name == name && m.sig == sig) want.toList).map (·.1) = missing
  have e1 : (want.toList.all fun p => got.any fun m => m.name == p.1 && m.sig == p.2) = missing.isEmpty := by
    rw [← hm]
    induction want.toList with
    | nil => rfl
    | cons p l ih =>
      simp only [List.all_cons, List.filter_cons]
      cases hp : got.any fun m => m.name == p.1 && m.sig == p.2 with
      | true => simpa using ih
      | false => simp
  rw [e1]
  cases missing with
  | nil => rfl
  | cons a l =>
    simp only [List.isEmpty_cons, Bool.not_false]
    generalize hq : List.partition _ (a :: l) = pq
    obtain ⟨un, ex⟩ := pq
    simp only
    have hne : un ≠ [] ∨ ex ≠ [] := part_ne hq
    symm
    cases hx : Instr.least ex with
    | some s => rfl
    | none =>
      have : ex = [] := by
        cases ex with
        | nil => rfl
        | cons b m => cases hx
      rcases hne with h | h
      · have := key (un.map fun id => (id.splitOn ".").getLastD id) (by simpa using h)
        simpa using this
      · exact absurd this h

theorem typeAssertM_spec {x : SV} {v : Value} {xt asserted : TypeId} {ok : Bool} (hx : SvIs ρ x v) : MSpec Φ C (typeAssertM P x asserted ok) ρ h w (DoesV P w h (Instr.typeAssert v xt asserted ok)) := by
  have hold : ∀ y z, SvIs ρ y z → (∀ W : World, (Instr.typeAssert v xt asserted ok).run P W = .ok (if ok then .tuple #[z, .bool true] else z) W) →
      MSpec Φ C (if ok then pure (.tup [y, .b (.c 1)]) else pure y : M SV) ρ h w (DoesV P w h (Instr.typeAssert v xt asserted ok)) := by
    intro y z hy hr
    cases ok
    · exact MSpec.ret ⟨rfl, rfl, z, hy, fun W => by simpa using hr W⟩
    · refine MSpec.ret ⟨rfl, rfl, _, ⟨?_, ?_⟩, fun W => by simpa using hr W⟩
      · simp [SV.ok, SV.oks, hy.1, At.lt]
      · simp [SV.den, SV.dens, hy.2]
  have fails : (∀ W : World, ok = true → ∀ z, (zeroValue asserted).run P W = .ok z W → (Instr.typeAssert v xt asserted ok).run P W = .ok (.tuple #[z, .bool false]) W) →
      MSpec Φ C (if ok then (match zeroT P asserted with | some z => pure (.tup [ofConst z, .b (.c 0)]) | none => M.no 300) else M.no 301 : M SV) ρ h w (DoesV P w h (Instr.typeAssert v xt asserted ok)) := by
    intro hr
    cases ok
    · exact MSpec.no
    · simp only [if_true]
      split
      · rename_i z ez
        have hz := ofConst_is ρ z
        refine MSpec.ret ⟨rfl, rfl, _, ⟨?_, ?_⟩, fun W => hr W rfl z (run_zeroValue' ez W)⟩
        · simp [SV.ok, SV.oks, hz.1, At.lt]
        · simp [SV.den, SV.dens, hz.2]
      · exact MSpec.no
  unfold typeAssertM
  cases ea : assertS P x asserted with
  | none => exact MSpec.no
  | some q =>
    unfold assertS isIfaceT at ea
    split at ea
    · rename_i want eu
      split at eu <;> cases eu
      rename_i eu
      cases ea
      obtain rfl := hx.raw
      refine fails fun W ho z hz => ?_
      subst ho
      simp [Instr.typeAssert, run_underlying eu, hz]
    · rename_i want t y eu
      split at eu <;> cases eu
      rename_i eu
      obtain ⟨hy, rfl⟩ := hx.iface
      split at ea
      · rename_i i ei
        rw [misses_ok] at ea
        cases hm : Instr.missingMethod want i.methods with
        | none =>
          simp only [hm, Option.isSome_none, Bool.false_eq_true, if_false, Option.some.injEq] at ea
          subst ea
          exact hold _ _ hx fun W => by cases ok <;> simp [Instr.typeAssert, run_underlying eu, typeInfo, ei, hm]
        | some s =>
          simp only [hm, Option.isSome_some, if_true, Option.some.injEq] at ea
          subst ea
          refine fails fun W ho z hz => ?_
          subst ho
          simp [Instr.typeAssert, run_underlying eu, typeInfo, ei, hm, hz]
      · cases ea
    · rename_i eu
      split at eu <;> cases eu
      rename_i d hd eu
      cases ea
      obtain rfl := hx.raw
      refine fails fun W ho z hz => ?_
      subst ho
      cases d <;> first
        | (exact absurd rfl (hd _))
        | simp [Instr.typeAssert, run_underlying eu, hz]
    · rename_i t y eu
      split at eu <;> cases eu
      rename_i d hd eu
      obtain ⟨hy, rfl⟩ := hx.iface
      split at ea
      · rename_i ht
        cases ea
        refine hold _ _ hy fun W => ?_
        cases d <;> first
          | (exact absurd rfl (hd _))
          | (cases ok <;> simp [Instr.typeAssert, run_underlying eu, ht])
      · rename_i ht
        cases ea
        refine fails fun W ho z hz => ?_
        subst ho
        cases d <;> first
          | (exact absurd rfl (hd _))
          | simp [Instr.typeAssert, run_underlying eu, ht, hz]
    · cases ea

theorem opX_spec {ro : List (Addr × Value)} (hro : RoOk C ro) {sl : Slots} {a : Act} (r : RepS ρ sl a) (o : Oper) :
    MSpec Φ C (opX P ro (evalO sl) o) ρ h w (OpDoes P a.eval o w) := by
  have base := opM_spec (Φ := Φ) (h := h) (w := w) (P := P) hro r o
  intro rh k hd
  have eqs : ∀ (neg : Bool) (t yt : TypeId) (x y : Operand) (u v : SV) (b : Bool), o.op = .binOp (if neg then .neq else .eql) t x y yt → evalO sl x = some u → evalO sl y = some v → eqSome P h t u v = some b →
      (k (bConst (if neg then !b else b)) h).den Φ ρ.is ρ.ls → ∃ a' ρ' h' w', ρ.le ρ' ∧ RepH C ρ' h' w' ∧ (k a' h').den Φ ρ'.is ρ'.ls ∧ OpDoes P a.eval o w a' ρ' h' w' := by
    intro neg t yt x y u v b ho hu hv hb hd
    refine ⟨_, ρ, h, w, Env.le_refl ρ, rh, hd, _, bConst_is ρ _, .inl ?_⟩
    have hx := evalO_is r hu
    have hy := evalO_is r hv
    have h1 := eqSome_vals (P := P) hx hy hb w neg x y
    have h2 := eqSome_run (P := P) rh hx hy hb
    have h3 : (do eqGuard (if neg then .neq else .eql) t x y (a.eval x) (a.eval y); binOp (if neg then .neq else .eql) t (a.eval x) (a.eval y) : Sem Value).run P w = .ok (.bool (if neg then !b else b)) w := by
      rw [h1]; cases neg <;> simp [h2]
    obtain ⟨dst, op, type, pos, after, guard⟩ := o
    simp only at ho
    subst ho
    have h4 : execOp a.eval ⟨dst, .binOp (if neg then .neq else .eql) t x y yt, type, pos, after, guard⟩ = (do pure (.value (← (do eqGuard (if neg then .neq else .eql) t x y (a.eval x) (a.eval y); binOp (if neg then .neq else .eql) t (a.eval x) (a.eval y) : Sem Value)))) := rfl
    rw [h4]
    rw [Sem.run_bind, h3]
    rfl
  unfold opX at hd
  split at hd
  · rename_i t x y yt ho
    split at hd
    · rename_i u v hu hv
      split at hd
      · rename_i b hb
        exact eqs false t yt x y u v b ho hu hv hb hd
      · exact base rh k hd
    · exact base rh k hd
  · rename_i t x y yt ho
    split at hd
    · rename_i u v hu hv
      split at hd
      · rename_i b hb
        exact eqs true t yt x y u v b ho hu hv hb hd
      · exact base rh k hd
    · exact base rh k hd
  · rename_i x xt asserted ok ho
    split at hd
    · rename_i u hu
      obtain ⟨sv, ρ', h', w', l, r', d', rfl, _, v, hv, hr⟩ := typeAssertM_spec (Φ := Φ) (C := C) (P := P) (w := w) (xt := xt) (evalO_is r hu) rh k hd
      refine ⟨sv, ρ', h', w', l, r', d', v, hv, .inl ?_⟩
      obtain ⟨dst, op, type, pos, after, guard⟩ := o
      simp only at ho
      subst ho
      simp [execOp, hr]
    · exact hd.elim
  · exact base rh k hd
end
end Go.Sx
