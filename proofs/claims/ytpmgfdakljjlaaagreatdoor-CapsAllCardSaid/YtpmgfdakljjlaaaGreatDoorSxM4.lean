/- The executor: texts of it, one behind another. -/
import Derived.Test.YtpmgfdakljjlaaaGreatDoorSxM3
import Derived.Laws.BytesString
import Derived.Laws.Append
import Derived.Laws.AppendOwn
import Derived.Laws.OwnMore
set_option linter.unusedVariables false
set_option linter.constructorNameAsVariable false
/- More operations: pointers and interfaces compared, type assertions. -/
set_option linter.unusedVariables false
namespace Go.Sx

/-- A block that stands in the heap, cell by cell. -/
def H.solid (h : H) : Blk → Bool
  | .cells .. => true
  | .arr _ _ _ sz _ => (match cmpR .neq (h.range sz) (some (0, 0)) with | some b => b | none => false)
  | _ => false
/-- Two addresses in blocks that are known: the same, another one, or not known to be either. -/
def ptrSame (h : H) (n : Nat) (o : At) (m : Nat) (p : At) : Option Bool :=
  if n = m then (if o = p then some true else match o, p with
    | .c x, .c y => if 0 ≤ x ∧ 0 ≤ y then (match h.blk n with
      | some b => if h.solid b then some false else none
      | none => none) else none
    | _, _ => none)
  else match h.blk n, h.blk m with
    | some a, some b => if h.solid a && h.solid b then some false else none
    | _, _ => none
def pteeT (P : Program) (t : TypeId) : Option TypeId :=
  match P.underlying t with
  | some (.pointer e) => (match P.info? e with
    | some i => if i.size ≠ 0 then some e else none
    | none => none)
  | _ => none
def eqPtrs (P : Program) (h : H) (t : TypeId) (x y : SV) : Option Bool :=
  match pteeT P t, x, y with
  | some _, .ptr n o, .ptr m p => ptrSame h n o m p
  | _, _, _ => none
def eqIfaces (P : Program) (h : H) (t : TypeId) (x y : SV) : Option Bool :=
  match P.underlying t, x, y with
  | some (.interface _), .iface a u, .iface b v =>
    if a ≠ b then some false else
    match P.info? a with
    | some i => if i.comparable then eqPtrs P h a u v else none
    | none => none
  | some (.interface _), .raw .nilIface, .iface _ _ => some false
  | some (.interface _), .iface _ _, .raw .nilIface => some false
  | _, _, _ => none
def eqSome (P : Program) (h : H) (t : TypeId) (x y : SV) : Option Bool := (eqPtrs P h t x y).or (eqIfaces P h t x y)

def ifaceMisses (want : Array (String × TypeId)) (got : Array Method) : Bool :=
  !(want.toList.all fun p => got.any fun m => m.name == p.1 && m.sig == p.2)
def isIfaceT (P : Program) (t : TypeId) : Option (Option (Array (String × TypeId))) :=
  match P.underlying t with
  | some (.interface ms) => some (some ms)
  | some _ => some none
  | none => none
/-- Whether an assertion holds, and the value. -/
def assertS (P : Program) (x : SV) (asserted : TypeId) : Option (Option SV) :=
  match isIfaceT P asserted, x with
  | some (some want), .raw .nilIface => some none
  | some (some want), .iface t v => (match P.info? t with
    | some i => if ifaceMisses want i.methods then some none else some (some (.iface t v))
    | none => none)
  | some none, .raw .nilIface => some none
  | some none, .iface t v => if t = asserted then some (some v) else some none
  | _, _ => none
def typeAssertM (P : Program) (x : SV) (asserted : TypeId) (ok : Bool) : M SV :=
  match assertS P x asserted with
  | some (some v) => if ok then pure (.tup [v, .b (.c 1)]) else pure v
  | some none => if ok then (match zeroT P asserted with
    | some z => pure (.tup [ofConst z, .b (.c 0)])
    | none => M.no 300) else M.no 301
  | none => M.no 302

def opX (P : Program) (ro : List (Addr × Value)) (ev : Operand → Option SV) (o : Oper) : M SV := fun h k =>
  match o.op with
  | .binOp .eql t x y _ => (match ev x, ev y with
    | some u, some v => (match eqSome P h t u v with
      | some b => k (bConst b) h
      | none => opM P ro ev o h k)
    | _, _ => opM P ro ev o h k)
  | .binOp .neq t x y _ => (match ev x, ev y with
    | some u, some v => (match eqSome P h t u v with
      | some b => k (bConst (!b)) h
      | none => opM P ro ev o h k)
    | _, _ => opM P ro ev o h k)
  | .typeAssert x _ asserted ok => (match ev x with
    | some u => typeAssertM P u asserted ok h k
    | none => .fail 303)
  | _ => opM P ro ev o h k

section
variable {Φ : Phi} {C : Ctx} {ρ : Env} {h : H} {w : World} {P : Program}

theorem at_inj {n m : Nat} {o p : At} (h : ρ.at n o = ρ.at m p) : (ρ.b n).1 = (ρ.b m).1 ∧ (ρ.b n).2 + (o.den ρ.is).toNat = (ρ.b m).2 + (p.den ρ.is).toNat := by
  simp only [Env.at, Addr.mk.injEq] at h
  exact ⟨h.1, h.2.1⟩
theorem solid_cells (f : Facts C ρ h w) {n : Nat} {b : Blk} (hb : BlkOk C ρ w n b) (ho : h.solid b = true) : (∃ ca t, w.heap[(ρ.b n).1]? = some (.cells ca t (0, 0))) ∧ b.phys ρ n = [(ρ.b n).1] := by
  have hh := hb.holds
  cases b with
  | cells xs sz el => obtain ⟨_, rest, h, _⟩ := hh; exact ⟨⟨_, _, h⟩, rfl⟩
  | arr ks l len sz el =>
    simp only [H.solid] at ho
    split at ho
    · rename_i b eb
      subst ho
      have := cmpR_ok (y := 0) (range_ok f sz) (by simp [inR]) eb
      simp only [cmpB, bne_iff_ne] at this
      obtain ⟨_, rest, h, _⟩ := hh.2.2 this
      exact ⟨⟨_, _, h⟩, by simp [Blk.phys, this]⟩
    · cases ho
  | ro ks l len => cases ho
  | map ks vs => cases ho
  | zmap k b l K => cases ho
  | pmap k l A B => cases ho
theorem ptrSame_run (r : RepH C ρ h w) {n m : Nat} {o p : At} {b : Bool} (e : ptrSame h n o m p = some b) : (sameAddr (ρ.at n o) (ρ.at m p)).run P w = .ok b w := by
  have f : Facts C ρ h w := r.fact
  unfold ptrSame at e
  split at e
  · rename_i hnm
    subst hnm
    split at e
    · rename_i hop; subst hop; cases e; exact run_sameAddr_same w _
    · rename_i hop
      split at e
      · rename_i x y
        split at e
        · rename_i hxy
          split at e
          · rename_i bl eb
            split at e
            · rename_i ho
              cases e
              obtain ⟨⟨ca, t, hc⟩, _⟩ := solid_cells f (f.heap _ (blk_mem eb)) ho
              refine run_sameAddr_other w (fun he => ?_) hc hc
              have := (at_inj he).2
              simp only [At.den_c] at this
              apply hop
              congr 1
              omega
            · cases e
          · cases e
        · cases e
      · cases e
  · rename_i hnm
    split at e
    · rename_i a b' ea eb
      split at e
      · rename_i ho
        cases e
        simp only [Bool.and_eq_true] at ho
        obtain ⟨⟨ca, ta, hca⟩, pa⟩ := solid_cells f (f.heap _ (blk_mem ea)) ho.1
        obtain ⟨⟨cb, tb, hcb⟩, pb⟩ := solid_cells f (f.heap _ (blk_mem eb)) ho.2
        refine run_sameAddr_other w (fun he => ?_) hca hcb
        have := flat_inj f.nodup (a := (n, a)) (b := (m, b')) (p := (ρ.b n).1) (blk_mem ea) (blk_mem eb) (by simp only [pa]; exact List.mem_singleton.2 rfl) (by simp only [pb, ← (at_inj he).1]; exact List.mem_singleton.2 rfl)
        exact hnm (Prod.mk.inj this).1
      · cases e
    · cases e
theorem eqPtrs_run (r : RepH C ρ h w) {t : TypeId} {x y : SV} {u v : Value} {b : Bool} (hx : SvIs ρ x u) (hy : SvIs ρ y v) (e : eqPtrs P h t x y = some b) (d : Nat) : (Op.equalIn (d + 1) t u v).run P w = .ok b w := by
  unfold eqPtrs at e
  split at e
  · rename_i el n o m p et
    obtain ⟨_, _, rfl⟩ := hx.ptr
    obtain ⟨_, _, rfl⟩ := hy.ptr
    unfold pteeT at et
    split at et
    · rename_i el' eu
      split at et
      · rename_i i ei
        split at et
        · rename_i hs
          simp [Op.equalIn, run_underlying eu, sizeOf, typeInfo, ei, hs, ptrSame_run r e]
        · cases et
      · cases et
    · cases et
  · cases e
theorem eqIfaces_run (r : RepH C ρ h w) {t : TypeId} {x y : SV} {u v : Value} {b : Bool} (hx : SvIs ρ x u) (hy : SvIs ρ y v) (e : eqIfaces P h t x y = some b) (d : Nat) : (Op.equalIn (d + 2) t u v).run P w = .ok b w := by
  unfold eqIfaces at e
  split at e
  · rename_i ms a x' b' y' eu
    obtain ⟨hx', rfl⟩ := hx.iface
    obtain ⟨hy', rfl⟩ := hy.iface
    split at e
    · rename_i hab
      cases e
      simp [Op.equalIn, run_underlying eu, hab]
    · rename_i hab
      have hab' : a = b' := by simpa using hab
      subst hab'
      split at e
      · rename_i i ei
        split at e
        · rename_i hc
          have := eqPtrs_run r hx' hy' e d
          rw [Op.equalIn]
          simp [run_underlying eu, typeInfo, ei, hc, this]
        · cases e
      · cases e
  · rename_i ms a x' eu
    obtain rfl := hx.raw
    obtain ⟨_, rfl⟩ := hy.iface
    cases e
    simp [Op.equalIn, run_underlying eu]
  · rename_i ms a x' eu
    obtain ⟨_, rfl⟩ := hx.iface
    obtain rfl := hy.raw
    cases e
    simp [Op.equalIn, run_underlying eu]
  · cases e
theorem eqSome_run (r : RepH C ρ h w) {t : TypeId} {x y : SV} {u v : Value} {b : Bool} (hx : SvIs ρ x u) (hy : SvIs ρ y v) (e : eqSome P h t x y = some b) : (Op.equal t u v).run P w = .ok b w := by
  unfold eqSome at e
  cases e1 : eqPtrs P h t x y with
  | some b' => rw [e1] at e; cases e; exact eqPtrs_run r hx hy e1 9999
  | none => rw [e1] at e; exact eqIfaces_run r hx hy e 9998
theorem eqSome_vals {t : TypeId} {x y : SV} {u v : Value} {b : Bool} (hx : SvIs ρ x u) (hy : SvIs ρ y v) (e : eqSome P h t x y = some b) (w : World) (neg : Bool) (ox oy : Operand) :
    (do eqGuard (if neg then .neq else .eql) t ox oy u v; binOp (if neg then .neq else .eql) t u v : Sem Value).run P w = (if neg then (do pure (Value.bool (!(← Op.equal t u v)))) else (do pure (Value.bool (← Op.equal t u v))) : Sem Value).run P w := by
  have hu : (∃ a c, u = .pointer a ∧ v = .pointer c) ∨ (∃ a b c d, u = .iface a b ∧ v = .iface c d) ∨ (u = .nilIface ∧ ∃ a b, v = .iface a b) ∨ (v = .nilIface ∧ ∃ a b, u = .iface a b) := by
    unfold eqSome at e
    cases e1 : eqPtrs P h t x y with
    | some b' =>
      unfold eqPtrs at e1
      split at e1
      · obtain ⟨_, _, rfl⟩ := hx.ptr; obtain ⟨_, _, rfl⟩ := hy.ptr; exact .inl ⟨_, _, rfl, rfl⟩
      · cases e1
    | none =>
      rw [e1] at e
      simp only [Option.none_or] at e
      unfold eqIfaces at e
      split at e
      · obtain ⟨_, rfl⟩ := hx.iface; obtain ⟨_, rfl⟩ := hy.iface; exact .inr (.inl ⟨_, _, _, _, rfl, rfl⟩)
      · obtain rfl := hx.raw; obtain ⟨_, rfl⟩ := hy.iface; exact .inr (.inr (.inl ⟨rfl, _, _, rfl⟩))
      · obtain ⟨_, rfl⟩ := hx.iface; obtain rfl := hy.raw; exact .inr (.inr (.inr ⟨rfl, _, _, rfl⟩))
      · cases e
  rcases hu with ⟨a, c, rfl, rfl⟩ | ⟨a, b', c, d, rfl, rfl⟩ | ⟨rfl, a, b', rfl⟩ | ⟨rfl, a, b', rfl⟩ <;> cases neg <;> simp [eqGuard, binOp]

theorem part_ne {p : String → Bool} {a : String} {l un ex : List String} (hq : List.partition p (a :: l) = (un, ex)) : un ≠ [] ∨ ex ≠ [] := by
  rw [List.partition_eq_filter_filter] at hq
  have h1 := (Prod.mk.inj hq).1
  have h2 := (Prod.mk.inj hq).2
  cases hc : p a with
  | true => left; rw [← h1, List.filter_cons_of_pos hc]; exact List.cons_ne_nil _ _
  | false => right; rw [← h2, List.filter_cons_of_pos (by simp [hc])]; exact List.cons_ne_nil _ _
theorem misses_ok {want : Array (String × TypeId)} {got : Array Method} : ifaceMisses want got = (Instr.missingMethod want got).isSome := by
  have key : ∀ l : List String, l ≠ [] → (Instr.least l).isSome = true := by
    intro l hl; cases l with
    | nil => exact absurd rfl hl
    | cons a l => rfl
  unfold ifaceMisses Instr.missingMethod
  simp only
  generalize hm : (List.filter (fun x => match x with | (name, sig) => !got.any fun m => m.name == name && m.sig == sig) want.toList).map (·.1) = missing
  have e1 : (want.toList.all fun p => got.any fun m => m.name == p.1 && m.sig == p.2) = missing.isEmpty := by
    rw [← hm]
    induction want.toList with
    | nil => rfl
    | cons p l ih =>
      simp only [List.all_cons, List.filter_cons]
      cases hp : got.any fun m => m.name == p.1 && m.sig == p.2 with
      | true => simpa using ih
      | false => simp
  rw [e1]
  cases missing with
  | nil => rfl
  | cons a l =>
    simp only [List.isEmpty_cons, Bool.not_false]
    generalize hq : List.partition _ (a :: l) = pq
    obtain ⟨un, ex⟩ := pq
    simp only
    have hne : un ≠ [] ∨ ex ≠ [] := part_ne hq
    symm
    cases hx : Instr.least ex with
    | some s => rfl
    | none =>
      have : ex = [] := by
        cases ex with
        | nil => rfl
        | cons b m => cases hx
      rcases hne with h | h
      · have := key (un.map fun id => (id.splitOn ".").getLastD id) (by simpa using h)
        simpa using this
      · exact absurd this h

theorem typeAssertM_spec {x : SV} {v : Value} {xt asserted : TypeId} {ok : Bool} (hx : SvIs ρ x v) : MSpec Φ C (typeAssertM P x asserted ok) ρ h w (DoesV P w h (Instr.typeAssert v xt asserted ok)) := by
  have hold : ∀ y z, SvIs ρ y z → (∀ W : World, (Instr.typeAssert v xt asserted ok).run P W = .ok (if ok then .tuple #[z, .bool true] else z) W) →
      MSpec Φ C (if ok then pure (.tup [y, .b (.c 1)]) else pure y : M SV) ρ h w (DoesV P w h (Instr.typeAssert v xt asserted ok)) := by
    intro y z hy hr
    cases ok
    · exact MSpec.ret ⟨rfl, rfl, z, hy, fun W => by simpa using hr W⟩
    · refine MSpec.ret ⟨rfl, rfl, _, ⟨?_, ?_⟩, fun W => by simpa using hr W⟩
      · simp [SV.ok, SV.oks, hy.1, At.lt]
      · simp [SV.den, SV.dens, hy.2]
  have fails : (∀ W : World, ok = true → ∀ z, (zeroValue asserted).run P W = .ok z W → (Instr.typeAssert v xt asserted ok).run P W = .ok (.tuple #[z, .bool false]) W) →
      MSpec Φ C (if ok then (match zeroT P asserted with | some z => pure (.tup [ofConst z, .b (.c 0)]) | none => M.no 300) else M.no 301 : M SV) ρ h w (DoesV P w h (Instr.typeAssert v xt asserted ok)) := by
    intro hr
    cases ok
    · exact MSpec.no
    · simp only [if_true]
      split
      · rename_i z ez
        have hz := ofConst_is ρ z
        refine MSpec.ret ⟨rfl, rfl, _, ⟨?_, ?_⟩, fun W => hr W rfl z (run_zeroValue' ez W)⟩
        · simp [SV.ok, SV.oks, hz.1, At.lt]
        · simp [SV.den, SV.dens, hz.2]
      · exact MSpec.no
  unfold typeAssertM
  cases ea : assertS P x asserted with
  | none => exact MSpec.no
  | some q =>
    unfold assertS isIfaceT at ea
    split at ea
    · rename_i want eu
      split at eu <;> cases eu
      rename_i eu
      cases ea
      obtain rfl := hx.raw
      refine fails fun W ho z hz => ?_
      subst ho
      simp [Instr.typeAssert, run_underlying eu, hz]
    · rename_i want t y eu
      split at eu <;> cases eu
      rename_i eu
      obtain ⟨hy, rfl⟩ := hx.iface
      split at ea
      · rename_i i ei
        rw [misses_ok] at ea
        cases hm : Instr.missingMethod want i.methods with
        | none =>
          simp only [hm, Option.isSome_none, Bool.false_eq_true, if_false, Option.some.injEq] at ea
          subst ea
          exact hold _ _ hx fun W => by cases ok <;> simp [Instr.typeAssert, run_underlying eu, typeInfo, ei, hm]
        | some s =>
          simp only [hm, Option.isSome_some, if_true, Option.some.injEq] at ea
          subst ea
          refine fails fun W ho z hz => ?_
          subst ho
          simp [Instr.typeAssert, run_underlying eu, typeInfo, ei, hm, hz]
      · cases ea
    · rename_i eu
      split at eu <;> cases eu
      rename_i d hd eu
      cases ea
      obtain rfl := hx.raw
      refine fails fun W ho z hz => ?_
      subst ho
      cases d <;> first
        | (exact absurd rfl (hd _))
        | simp [Instr.typeAssert, run_underlying eu, hz]
    · rename_i t y eu
      split at eu <;> cases eu
      rename_i d hd eu
      obtain ⟨hy, rfl⟩ := hx.iface
      split at ea
      · rename_i ht
        cases ea
        refine hold _ _ hy fun W => ?_
        cases d <;> first
          | (exact absurd rfl (hd _))
          | (cases ok <;> simp [Instr.typeAssert, run_underlying eu, ht])
      · rename_i ht
        cases ea
        refine fails fun W ho z hz => ?_
        subst ho
        cases d <;> first
          | (exact absurd rfl (hd _))
          | simp [Instr.typeAssert, run_underlying eu, ht, hz]
    · cases ea

theorem opX_spec {ro : List (Addr × Value)} (hro : RoOk C ro) {sl : Slots} {a : Act} (r : RepS ρ sl a) (o : Oper) :
    MSpec Φ C (opX P ro (evalO sl) o) ρ h w (OpDoes P a.eval o w) := by
  have base := opM_spec (Φ := Φ) (h := h) (w := w) (P := P) hro r o
  intro rh k hd
  have eqs : ∀ (neg : Bool) (t yt : TypeId) (x y : Operand) (u v : SV) (b : Bool), o.op = .binOp (if neg then .neq else .eql) t x y yt → evalO sl x = some u → evalO sl y = some v → eqSome P h t u v = some b →
      (k (bConst (if neg then !b else b)) h).den Φ ρ.is ρ.ls → ∃ a' ρ' h' w', ρ.le ρ' ∧ RepH C ρ' h' w' ∧ (k a' h').den Φ ρ'.is ρ'.ls ∧ OpDoes P a.eval o w a' ρ' h' w' := by
    intro neg t yt x y u v b ho hu hv hb hd
    refine ⟨_, ρ, h, w, Env.le_refl ρ, rh, hd, _, bConst_is ρ _, .inl ?_⟩
    have hx := evalO_is r hu
    have hy := evalO_is r hv
    have h1 := eqSome_vals (P := P) hx hy hb w neg x y
    have h2 := eqSome_run (P := P) rh hx hy hb
    have h3 : (do eqGuard (if neg then .neq else .eql) t x y (a.eval x) (a.eval y); binOp (if neg then .neq else .eql) t (a.eval x) (a.eval y) : Sem Value).run P w = .ok (.bool (if neg then !b else b)) w := by
      rw [h1]; cases neg <;> simp [h2]
    obtain ⟨dst, op, type, pos, after, guard⟩ := o
    simp only at ho
    subst ho
    have h4 : execOp a.eval ⟨dst, .binOp (if neg then .neq else .eql) t x y yt, type, pos, after, guard⟩ = (do pure (.value (← (do eqGuard (if neg then .neq else .eql) t x y (a.eval x) (a.eval y); binOp (if neg then .neq else .eql) t (a.eval x) (a.eval y) : Sem Value)))) := rfl
    rw [h4]
    rw [Sem.run_bind, h3]
    rfl
  unfold opX at hd
  split at hd
  · rename_i t x y yt ho
    split at hd
    · rename_i u v hu hv
      split at hd
      · rename_i b hb
        exact eqs false t yt x y u v b ho hu hv hb hd
      · exact base rh k hd
    · exact base rh k hd
  · rename_i t x y yt ho
    split at hd
    · rename_i u v hu hv
      split at hd
      · rename_i b hb
        exact eqs true t yt x y u v b ho hu hv hb hd
      · exact base rh k hd
    · exact base rh k hd
  · rename_i x xt asserted ok ho
    split at hd
    · rename_i u hu
      obtain ⟨sv, ρ', h', w', l, r', d', rfl, _, v, hv, hr⟩ := typeAssertM_spec (Φ := Φ) (C := C) (P := P) (w := w) (xt := xt) (evalO_is r hu) rh k hd
      refine ⟨sv, ρ', h', w', l, r', d', v, hv, .inl ?_⟩
      obtain ⟨dst, op, type, pos, after, guard⟩ := o
      simp only at ho
      subst ho
      simp [execOp, hr]
    · exact hd.elim
  · exact base rh k hd
end
end Go.Sx
/- More operations: strings and slices cut. -/
set_option linter.unusedVariables false
namespace Go.Sx

def bndS (ev : Operand → Option SV) (d : At) : Option Operand → Option At
  | none => some d
  | some o => match ev o with
    | some (.i _ a) => some a
    | _ => none
def cutM (P : Program) (elem : TypeId) (n : Nat) (o cap l h : At) : M SV :=
  match sizeT P elem with
  | some sz => do
    need .geq l (.c 0)
    need .leq l h
    need .leq h cap
    let len' ← mkI (.sub h l)
    if l = .c 0 then pure (.slc n o len' cap) else do
    need .geq o (.c 0)
    let e ← mkI (.cmp .eql l cap)
    let b ← dec e
    if b then pure (.slc n o len' (.c 0)) else do
    let q ← mkI (.mul l (.c sz))
    let o' ← mkI (.add o q)
    let cap' ← mkI (.sub cap l)
    pure (.slc n o' len' cap')
  | none => M.no 330
def sliceM (P : Program) (ev : Operand → Option SV) (t : TypeId) (x : SV) (lo hi mx : Option Operand) : M SV :=
  if mx.isSome then M.no 331 else
  match P.underlying t, x with
  | some .string, .raw (.string s) => (match bndS ev (.c 0) lo, bndS ev (.c s.size) hi with
    | some (.c l), some (.c h) => if 0 ≤ l ∧ l ≤ h ∧ h ≤ s.size then pure (.raw (.string (s.extract l.toNat h.toNat))) else M.no 332
    | _, _ => M.no 333)
  | some (.slice elem), .slc n o len cap => (match bndS ev (.c 0) lo, bndS ev len hi with
    | some l, some h => cutM P elem n o cap l h
    | _, _ => M.no 334)
  | some (.slice elem), .nils => (match sizeT P elem, bndS ev (.c 0) lo, bndS ev (.c 0) hi with
    | some _, some (.c 0), some (.c 0) => pure .nils
    | some _, some l, some h => do
      need .eql l (.c 0)
      need .eql h (.c 0)
      pure .nils
    | _, _, _ => M.no 335)
  | some (.array m elem), .ptr n o => (match bndS ev (.c 0) lo, bndS ev (.c m) hi with
    | some l, some h => cutM P elem n o (.c m) l h
    | _, _ => M.no 336)
  | _, _ => M.no 337

section
variable {Φ : Phi} {C : Ctx} {ρ : Env} {h : H} {w : World} {P : Program}

/-- A bound as it is written. -/
def BndIs (v : Option Value) (d n : Int) : Prop := (v = none ∧ n = d) ∨ ∃ k, v = some (.int k n)
theorem bounds_run {isSlice : Bool} {len cap : Nat} {lo hi : Option Value} {l h : Int} (hl : BndIs lo 0 l) (hh : BndIs hi len h) (h0 : 0 ≤ l) (h1 : l ≤ h) (h2 : h ≤ cap) (w : World) :
    (Instr.sliceBounds isSlice len cap lo hi none).run P w = .ok (l.toNat, h.toNat, cap) w := by
  have eh : (h.toNat : Int) = h := Int.toNat_of_nonneg (by omega)
  have h3 : 0 ≤ h := by omega
  rcases hl with ⟨rfl, rfl⟩ | ⟨kl, rfl⟩ <;> rcases hh with ⟨rfl, rfl⟩ | ⟨kh, rfl⟩ <;> simp [Instr.sliceBounds, Instr.sliceBound, asIntOf, *]
theorem bndS_is {sl : Slots} {a : Act} (r : RepS ρ sl a) {d x : At} {o : Option Operand} {z : Int} (hd : AtIs ρ d z) (e : bndS (evalO sl) d o = some x) : ∃ n, AtIs ρ x n ∧ BndIs (o.map a.eval) z n := by
  unfold bndS at e
  split at e
  · cases e; exact ⟨z, hd, .inl ⟨rfl, rfl⟩⟩
  · rename_i op
    split at e
    · rename_i k y ey
      cases e
      obtain ⟨hy, hv⟩ := (evalO_is r ey).int
      exact ⟨_, hy, .inr ⟨k, by simp [hv]⟩⟩
    · cases e

def cutV (a : Addr) (l h m s : Nat) : Value := .slice (some (if m = l then a else a.add (l * s))) (h - l) (m - l)
theorem cutM_spec {elem : TypeId} {n : Nat} {o cap l h' : At} {zc zl zh : Int} (hn : n < ρ.bs.length) (ho : AtIs ρ o (o.den ρ.is)) (hc : AtIs ρ cap zc) (hl : AtIs ρ l zl) (hh : AtIs ρ h' zh) :
    MSpec Φ C (cutM P elem n o cap l h') ρ h w fun sv ρ' h'' w' => w' = w ∧ h''.hp = h.hp ∧ 0 ≤ zl ∧ zl ≤ zh ∧ zh ≤ zc ∧ ∃ s, sizeT P elem = some s ∧ SvIs ρ' sv (cutV (ρ.at n o) zl.toNat zh.toNat zc.toNat s) := by
  unfold cutM
  split
  · rename_i sz es
    refine (need_spec hl (AtIs.c ρ 0)).bind ?_
    rintro _ ρ1 h1 w1 l1 ⟨rfl, hp1, c1⟩
    refine (need_spec (hl.mono l1) (hh.mono l1)).bind ?_
    rintro _ ρ2 h2 w2 l2 ⟨rfl, hp2, c2⟩
    refine (need_spec ((hh.mono l1).mono l2) ((hc.mono l1).mono l2)).bind ?_
    rintro _ ρ3 h3 w3 l3 ⟨rfl, hp3, c3⟩
    simp only [cmpB, decide_eq_true_eq] at c1 c2 c3
    have L := Env.le_trans l1 (Env.le_trans l2 l3)
    have hl3 := hl.mono L
    have hh3 := hh.mono L
    have hc3 := hc.mono L
    have ho3 := ho.mono L
    have hat : ∀ {ρ' : Env}, ρ.le ρ' → ρ'.at n o = ρ.at n o := fun {ρ'} l => by
      obtain ⟨τ, rfl⟩ := l; exact Env.at_app hn ho.1
    refine (mkI_ok (okB2 hh3.1 hl3.1 (.sub h' l) rfl rfl)).bind ?_
    rintro len' ρ4 h4 w4 l4 ⟨rfl, hp4, hlen⟩
    simp only [IOp.den] at hlen
    rw [hh3.2, hl3.2] at hlen
    have L4 := Env.le_trans L l4
    have hn4 := Nat.lt_of_lt_of_le hn (Env.le_len L4).2.2
    have elen : (zh - zl).toNat = zh.toNat - zl.toNat := by omega
    split
    · rename_i h0
      subst h0
      have hz : zl = 0 := hl.2.symm
      subst hz
      refine MSpec.ret ⟨rfl, by rw [hp4, hp3, hp2, hp1], c1, c2, c3, sz, es, ?_, ?_⟩
      · simp only [SV.ok, Bool.and_eq_true, decide_eq_true_eq]
        exact ⟨hn4, (ho.mono L4).1, hlen.1, (hc.mono L4).1⟩
      · have e1 : len'.den ρ4.is = zh - 0 := hlen.2
        have e2 : cap.den ρ4.is = zc := (hc.mono L4).2
        simp only [SV.den, hat L4, cutV, e1, e2]
        simp
        intro _
        simp [Addr.add]
    · refine (need_spec (ho.mono L4) (AtIs.c ρ4 0)).bind ?_
      rintro _ ρ5 h5 w5 l5 ⟨rfl, hp5, c5⟩
      simp only [cmpB, decide_eq_true_eq] at c5
      have L5 := Env.le_trans L4 l5
      refine (cmp_spec (op := .eql) (hl.mono L5) (hc.mono L5)).bind ?_
      rintro e ρ6 h6 w6 l6 ⟨rfl, hp6, he⟩
      have L6 := Env.le_trans L5 l6
      refine (dec_spec he).bind ?_
      rintro b ρ7 h7 w7 l7 ⟨rfl, hp7, hb⟩
      have L7 := Env.le_trans L6 l7
      have hn7 := Nat.lt_of_lt_of_le hn (Env.le_len L7).2.2
      have hlen7 := ((hlen.mono l5).mono l6).mono l7
      have hbe : (zl == zc) = b := by rw [← hb]; cases hq : (zl == zc) <;> simp [cmpB, b2i, hq]
      cases b with
      | true =>
        simp only [if_true]
        have hz : zl = zc := by simpa using hbe
        refine MSpec.ret ⟨rfl, by rw [hp7, hp6, hp5, hp4, hp3, hp2, hp1], c1, c2, c3, sz, es, ?_, ?_⟩
        · simp only [SV.ok, Bool.and_eq_true, decide_eq_true_eq]
          exact ⟨hn7, (ho.mono L7).1, hlen7.1, rfl⟩
        · have e1 : len'.den ρ7.is = zh - zl := hlen7.2
          simp only [SV.den, hat L7, cutV, e1, At.den_c, hz]
          rw [← hz] at *
          simp [elen]
      | false =>
        simp only [Bool.false_eq_true, if_false]
        have hz : zl ≠ zc := by simpa using hbe
        refine (mkI_ok (okB2 (hl.mono L7).1 rfl (.mul l (.c sz)) rfl rfl)).bind ?_
        rintro q ρ8 h8 w8 l8 ⟨rfl, hp8, hq⟩
        simp only [IOp.den, (hl.mono L7).2, At.den_c] at hq
        have L8 := Env.le_trans L7 l8
        refine (mkI_ok (okB2 (ho.mono L8).1 hq.1 (.add o q) rfl rfl)).bind ?_
        rintro o' ρ9 h9 w9 l9 ⟨rfl, hp9, ho'⟩
        simp only [IOp.den, (ho.mono L8).2, hq.2] at ho'
        have L9 := Env.le_trans L8 l9
        refine (mkI_ok (okB2 (hc.mono L9).1 (hl.mono L9).1 (.sub cap l) rfl rfl)).bind ?_
        rintro cap' ρ10 h10 w10 l10 ⟨rfl, hp10, hcap'⟩
        simp only [IOp.den, (hc.mono L9).2, (hl.mono L9).2] at hcap'
        have L10 := Env.le_trans L9 l10
        refine MSpec.ret ⟨rfl, by rw [hp10, hp9, hp8, hp7, hp6, hp5, hp4, hp3, hp2, hp1], c1, c2, c3, sz, es, ?_, ?_⟩
        · simp only [SV.ok, Bool.and_eq_true, decide_eq_true_eq]
          exact ⟨Nat.lt_of_lt_of_le hn (Env.le_len L10).2.2, (ho'.mono l10).1, (((hlen7.mono l8).mono l9).mono l10).1, hcap'.1⟩
        · have e1 : len'.den ρ10.is = zh - zl := (((hlen7.mono l8).mono l9).mono l10).2
          have e2 : o'.den ρ10.is = o.den ρ.is + zl * sz := (ho'.mono l10).2
          have e3 : cap'.den ρ10.is = zc - zl := hcap'.2
          have e4 : (zc - zl).toNat = zc.toNat - zl.toNat := by omega
          have e5 : ¬ zc.toNat = zl.toNat := by omega
          have e6 : ρ10.b n = ρ.b n := by obtain ⟨τ, rfl⟩ := L10; exact Env.b_app hn
          have e7 : (o.den ρ.is + zl * sz).toNat = (o.den ρ.is).toNat + zl.toNat * sz := by
            obtain ⟨x, hx⟩ := Int.eq_ofNat_of_zero_le c1
            obtain ⟨y, hy⟩ := Int.eq_ofNat_of_zero_le c5
            rw [hx, hy]
            rw [← Int.natCast_mul, ← Int.natCast_add]
            simp only [Int.toNat_natCast]
          simp only [SV.den, cutV, e1, e3, e4, elen, if_neg e5, Env.at, e2, e6, e7, Addr.add, Nat.add_assoc]
          by_cases hz0 : zl.toNat * sz = 0 <;> simp [hz0]
  · exact MSpec.no

theorem sliceM_spec {sl : Slots} {a : Act} (r : RepS ρ sl a) {t : TypeId} {x : SV} {v : Value} (hx : SvIs ρ x v) (lo hi mx : Option Operand) :
    MSpec Φ C (sliceM P (evalO sl) t x lo hi mx) ρ h w (DoesV P w h (Instr.sliceAt t v (lo.map a.eval) (hi.map a.eval) (mx.map a.eval))) := by
  unfold sliceM
  split
  · exact MSpec.no
  rename_i hmx
  have hmx' : mx = none := by cases mx <;> simp_all
  subst hmx'
  split
  · rename_i s eu
    obtain rfl := hx.raw
    split
    · rename_i l h' el eh
      split
      · rename_i hc
        obtain ⟨zl, hl, bl⟩ := bndS_is r (AtIs.c ρ 0) el
        obtain ⟨zh, hh, bh⟩ := bndS_is r (AtIs.c ρ (s.size : Int)) eh
        obtain rfl : l = zl := hl.2
        obtain rfl : h' = zh := hh.2
        refine MSpec.ret ⟨rfl, rfl, _, ⟨rfl, rfl⟩, fun W => ?_⟩
        simp [Instr.sliceAt, run_underlying eu, Instr.slice, bounds_run (P := P) bl bh hc.1 hc.2.1 hc.2.2]
        rfl
      · exact MSpec.no
    · exact MSpec.no
  · rename_i elem n o len cap eu
    obtain ⟨hn, ho, hl, hc, rfl⟩ := hx.slc
    split
    · rename_i l h' el eh
      obtain ⟨zl, hl', bl⟩ := bndS_is r (AtIs.c ρ 0) el
      obtain ⟨zh, hh', bh⟩ := bndS_is r hl eh
      refine (cutM_spec (P := P) hn ho hc hl' hh').mono ?_
      rintro sv ρ1 h1 w1 l1 ⟨rfl, hp1, c1, c2, c3, s, es, hs⟩
      refine ⟨rfl, hp1, _, hs, fun W => ?_⟩
      have bh' : BndIs (hi.map a.eval) ((len.den ρ.is).toNat : Nat) zh := by
        rcases bh with ⟨h1, h2⟩ | h1
        · exact .inl ⟨h1, by omega⟩
        · exact .inr h1
      simp [Instr.sliceAt, run_underlying eu, Instr.slice, bounds_run (P := P) bl bh' c1 c2 (by omega : zh ≤ ((cap.den ρ.is).toNat : Nat)), run_sizeOf' es, cutV]
      split <;> rfl
    · exact MSpec.no
  · rename_i elem eu
    obtain rfl := hx.nils
    split
    · rename_i s es el eh
      obtain ⟨zl, hl, bl⟩ := bndS_is r (AtIs.c ρ 0) el
      obtain ⟨zh, hh, bh⟩ := bndS_is r (AtIs.c ρ 0) eh
      obtain rfl : 0 = zl := hl.2
      obtain rfl : 0 = zh := hh.2
      refine MSpec.ret ⟨rfl, rfl, _, ⟨rfl, rfl⟩, fun W => ?_⟩
      simp [Instr.sliceAt, run_underlying eu, Instr.slice, bounds_run (P := P) (len := 0) (cap := 0) bl bh (Int.le_refl 0) (Int.le_refl 0) (Int.le_refl 0), run_sizeOf' es]
      rfl
    · rename_i s l h' _ es el eh
      obtain ⟨zl, hl, bl⟩ := bndS_is r (AtIs.c ρ 0) el
      obtain ⟨zh, hh, bh⟩ := bndS_is r (AtIs.c ρ 0) eh
      refine (need_spec hl (AtIs.c ρ 0)).bind ?_
      rintro _ ρ1 h1 w1 l1 ⟨rfl, hp1, c1⟩
      refine (need_spec (hh.mono l1) (AtIs.c ρ1 0)).bind ?_
      rintro _ ρ2 h2 w2 l2 ⟨rfl, hp2, c2⟩
      simp only [cmpB, beq_iff_eq] at c1 c2
      subst c1
      subst c2
      refine MSpec.ret ⟨rfl, by rw [hp2, hp1], _, ⟨rfl, rfl⟩, fun W => ?_⟩
      simp [Instr.sliceAt, run_underlying eu, Instr.slice, bounds_run (P := P) (len := 0) (cap := 0) bl bh (Int.le_refl 0) (Int.le_refl 0) (Int.le_refl 0), run_sizeOf' es]
      rfl
    · exact MSpec.no
  · rename_i m elem n o eu
    obtain ⟨hn, ho, rfl⟩ := hx.ptr
    split
    · rename_i l h' el eh
      obtain ⟨zl, hl', bl⟩ := bndS_is r (AtIs.c ρ 0) el
      obtain ⟨zh, hh', bh⟩ := bndS_is r (AtIs.c ρ (m : Int)) eh
      refine (cutM_spec (P := P) hn ho (AtIs.c ρ (m : Int)) hl' hh').mono ?_
      rintro sv ρ1 h1 w1 l1 ⟨rfl, hp1, c1, c2, c3, s, es, hs⟩
      refine ⟨rfl, hp1, _, hs, fun W => ?_⟩
      simp [Instr.sliceAt, Instr.sureAddr, run_underlying eu, bounds_run (P := P) bl bh c1 c2 c3, run_sizeOf' es, cutV]
    · exact MSpec.no
  · exact MSpec.no

def opY (P : Program) (ro : List (Addr × Value)) (ev : Operand → Option SV) (o : Oper) : M SV :=
  match o.op with
  | .slice t x lo hi mx => with1 (ev x) fun u => sliceM P ev t u lo hi mx
  | _ => opX P ro ev o
theorem opY_spec {ro : List (Addr × Value)} (hro : RoOk C ro) {sl : Slots} {a : Act} (r : RepS ρ sl a) (o : Oper) :
    MSpec Φ C (opY P ro (evalO sl) o) ρ h w (OpDoes P a.eval o w) := by
  unfold opY
  split
  · rename_i t x lo hi mx ho
    refine (with1_spec (fun y hy => evalO_is r hy) fun y hy => sliceM_spec (P := P) (w := w) (h := h) r hy lo hi mx).mono ?_
    rintro sv ρ1 h1 w1 l ⟨rfl, _, v, hv, hr⟩
    refine ⟨v, hv, .inl ?_⟩
    obtain ⟨dst, op, type, pos, after, guard⟩ := o
    simp only at ho
    subst ho
    simp [execOp, hr]
  · exact opX_spec hro r o
end
end Go.Sx
/- More operations: bytes as a string, slices with room, appends where there is room. -/
set_option linter.unusedVariables false
namespace Go.Sx

def byteS : SV → Option Int
  | .i .u8 (.c b) => some b
  | _ => none
def bytesS : List SV → Option (List Int)
  | [] => some []
  | x :: xs => match byteS x, bytesS xs with
    | some b, some bs => some (b :: bs)
    | _, _ => none
def strOf (ns : List Int) : ByteArray := ns.foldl (fun r n => r.push (UInt8.ofNat n.toNat)) ByteArray.empty
def bytesM (P : Program) (src dst : TypeId) (n : Nat) (o len : At) : M SV :=
  match P.underlying src, P.underlying dst, len with
  | some (.slice e), some .string, .c m => (match P.underlying e with
    | some (.int .u8) => if 0 ≤ m then (do
        need .geq o (.c 0)
        let xs ← rdCells n o 0 m.toNat
        match bytesS xs with
        | some bs => pure (.raw (.string (strOf bs)))
        | none => M.no 340) else M.no 341
    | _ => M.no 342)
  | _, _, _ => M.no 343
def makeRoomM (P : Program) (t : TypeId) (a b : Int) : M SV :=
  match P.underlying t with
  | some (.slice elem) => (match sizeT P elem, zeroCellsT P elem, P.info? elem with
    | some s, some zs, some inf =>
      if 0 ≤ a ∧ a ≤ b ∧ b ≤ 1000000 ∧ inf.bytes ≤ 1000 ∧ zs.length = s ∧ 0 < b.toNat * s then (do
        let p ← newBlk (repeatZ zs b.toNat) elem
        match p with
        | .ptr q o => pure (.slc q o (.c a) (.c b))
        | _ => M.no 344) else M.no 345
    | _, _, _ => M.no 346)
  | _ => M.no 347
def appendM (P : Program) (t t' : TypeId) (x y : SV) : M SV :=
  match P.underlying t, x, y with
  | some (.slice elem), .slc n o (.c len) (.c cap), .slc m p (.c k) _ => (match sizeT P elem with
    | some s => if t = t' ∧ 0 ≤ len ∧ 0 ≤ k ∧ len + k ≤ cap then (do
        need .geq p (.c 0)
        need .geq o (.c 0)
        let xs ← rdCells m p 0 (k.toNat * s)
        let o' ← mkI (.add o (.c (len.toNat * s : Nat)))
        wrCells n o' 0 xs
        pure (.slc n o (.c (len + k)) (.c cap))) else M.no 350
    | none => M.no 351)
  | _, _, _ => M.no 352
def constI : Option SV → Option Int
  | some (.i _ (.c n)) => some n
  | _ => none
def opZ (P : Program) (ro : List (Addr × Value)) (ev : Operand → Option SV) (o : Oper) : M SV :=
  match o.op with
  | .convert src dst x => (match ev x with
    | some (.slc n p len cap) => bytesM P src dst n p len
    | _ => opY P ro ev o)
  | .makeSlice t l c => (match constI (ev l), constI (ev c) with
    | some a, some b => if a = b then opY P ro ev o else makeRoomM P t a b
    | _, _ => opY P ro ev o)
  | .call c => (match c.callee, c.args.toList, c.argTypes.toList with
    | .builtin .append, [x, y], [t, t'] => with1 (ev x) fun u => with1 (ev y) fun v => appendM P t t' u v
    | _, _, _ => opY P ro ev o)
  | _ => opY P ro ev o

section
variable {Φ : Phi} {C : Ctx} {ρ : Env} {h : H} {w : World} {P : Program}

theorem bytesS_den {ρ : Env} : ∀ {xs : List SV} {bs : List Int}, bytesS xs = some bs → SV.dens ρ xs = bs.map (Value.int .u8)
  | [], bs, e => by cases e; rfl
  | x :: xs, bs, e => by
    unfold bytesS at e
    split at e
    · rename_i b bs' hb hbs
      cases e
      unfold byteS at hb
      split at hb
      · cases hb
        simp only [SV.dens, SV.den, List.map_cons, At.den_c, bytesS_den hbs]
      · cases hb
    · cases e

theorem bytesM_spec {src dst : TypeId} {n : Nat} {o len cap : At} {v : Value} (hx : SvIs ρ (.slc n o len cap) v) : MSpec Φ C (bytesM P src dst n o len) ρ h w (Does P (convert src dst v) w) := by
  obtain ⟨hn, ho, hl, _, rfl⟩ := hx.slc
  unfold bytesM
  split
  · rename_i e m eu ed
    split
    · rename_i ee
      split
      · rename_i hm
        refine (need_spec ho (AtIs.c ρ 0)).bind ?_
        rintro _ ρ1 h1 w1 l1 ⟨rfl, hp1, c1⟩
        simp only [cmpB, decide_eq_true_eq] at c1
        refine (rdCells_spec (Nat.lt_of_lt_of_le hn (Env.le_len l1).2.2) (ho.mono l1) c1 0 m.toNat).bind ?_
        rintro xs ρ2 h2 w2 l2 ⟨rfl, hp2, hok, hlen, hget⟩
        split
        · rename_i bs hbs
          refine MSpec.ret ⟨_, ⟨rfl, rfl⟩, ?_⟩
          have hd := bytesS_den (ρ := ρ2) hbs
          have hat : ρ1.at n o = ρ.at n o := by obtain ⟨τ, rfl⟩ := l1; exact Env.at_app hn ho.1
          have hload := run_loadCells_list (P := P) w2 (ρ.at n o) (SV.dens ρ2 xs) (fun j v hj => by have := hget j v hj; rw [hat, Nat.zero_add] at this; exact this)
          have hll : (SV.dens ρ2 xs).length = m.toNat := by rw [SV.dens_eq]; simpa using hlen
          rw [hll, hd] at hload
          have := run_bytesToString (P := P) w2 (ρ.at n o) m.toNat (cap.den ρ.is).toNat bs hload
          simp only [convert, Sem.run_bind, run_underlying eu, run_underlying ed, Result.andThen_ok, run_underlying ee, At.den_c, this]
          rfl
        · exact MSpec.no
      · exact MSpec.no
    · exact MSpec.no
  · exact MSpec.no

theorem makeRoom_run {t elem : TypeId} {k k' : IntKind} {a n s : Nat} {inf : TypeInfo} {z : Value} (eu : P.underlying t = some (.slice elem)) (es : sizeT P elem = some s) (ez : zeroT P elem = some z)
    (ei : P.info? elem = some inf) (hb : inf.bytes ≤ 1000) (hn : n ≤ 1000000) (han : a ≤ n) (hpos : 0 < n * s) :
    (Instr.makeSlice t (.int k a) (.int k' n)).run P w = .ok (.slice (some ⟨w.heap.size, 0, none⟩) a n) (w.alloc (.cells ((Array.range (n * s)).map (fun i => z.cells[i % z.cells.size]!)) elem (0, 0))) := by
  have hw : IntKind.i64.wrap (n : Int) = n := wrap_small (by omega) (by omega) rfl
  have hw' : IntKind.i64.wrap (a : Int) = a := wrap_small (by omega) (by omega) rfl
  have h0 : ¬ ((n : Int) < 0) := by omega
  have h0' : ¬ ((a : Int) < 0) := by omega
  have h2 : ¬ ((inf.bytes : Int) * (n : Int) > 2 ^ 48) := by
    have : (inf.bytes : Int) * (n : Int) ≤ 1000 * 1000000 := Int.mul_le_mul (by omega) (by omega) (by omega) (by omega)
    omega
  have h2' : ¬ ((inf.bytes : Int) * (a : Int) > 2 ^ 48) := by
    have : (inf.bytes : Int) * (a : Int) ≤ 1000 * 1000000 := Int.mul_le_mul (by omega) (by omega) (by omega) (by omega)
    omega
  have h3 : ¬ ((a : Int) > (n : Int)) := by omega
  have hns : ¬ n * s = 0 := by omega
  simp only [Instr.makeSlice, Sem.run_bind, run_underlying eu, Result.andThen_ok, asInt, asIntOf, Sem.run_pure, typeInfo, run_program, ei, hw, hw']
  simp only [h0, h0', h2, h2', h3, decide_false, Bool.or_self, Bool.false_eq_true, if_false, Sem.run_pure, Result.andThen_ok, Sem.run_bind, run_askRoom, run_sizeOf' es, Int.toNat_natCast, hns, run_zeroValue' ez]
  simp [newRow]
theorem makeRoomM_spec {t : TypeId} {a b : Int} {k k' : IntKind} : MSpec Φ C (makeRoomM P t a b) ρ h w (Does P (Instr.makeSlice t (.int k a) (.int k' b)) w) := by
  unfold makeRoomM
  split
  · rename_i elem eu
    split
    · rename_i s zs inf es ezs ei
      obtain ⟨z, ez, hzo, hzc⟩ := zeroCellsT_is ezs w
      split
      · rename_i hc
        obtain ⟨ha, hab, hb, hbytes, hz, hpos⟩ := hc
        obtain ⟨x, hx⟩ := Int.eq_ofNat_of_zero_le ha
        obtain ⟨y, hy⟩ := Int.eq_ofNat_of_zero_le (by omega : 0 ≤ b)
        subst hx; subst hy
        simp only [Int.toNat_natCast] at hpos ⊢
        have hs0 : 0 < s := by
          rcases Nat.eq_zero_or_pos s with h0 | h0
          · subst h0; omega
          · exact h0
        refine (newBlk_spec (repeatZ_ok (hzo ρ) y)).bind ?_
        rintro p ρ1 h1 w1 l1 ⟨hp1, rfl⟩
        split
        · rename_i q o
          obtain ⟨hq, ho, hat⟩ := hp1.ptr
          have hat' : ρ1.at q o = ⟨w.heap.size, 0, none⟩ := by simpa using hat.symm
          refine MSpec.ret ⟨_, ⟨by simp only [SV.ok, hq, ho.1, decide_true]; rfl, rfl⟩, ?_⟩
          rw [makeRoom_run eu es ez ei hbytes (by omega) (by omega) hpos, hzc ρ, repeatZ_dens hz hs0]
          simp [SV.den, hat']
        · exact MSpec.no
      · exact MSpec.no
    · exact MSpec.no
  · exact MSpec.no

theorem appendM_spec {t t' ty : TypeId} {x y : SV} {u v : Value} (hx : SvIs ρ x u) (hy : SvIs ρ y v) : MSpec Φ C (appendM P t t' x y) ρ h w (Does P (Builtin.append_ #[t, t'] ty #[u, v]) w) := by
  unfold appendM
  split
  · rename_i elem n o len cap m p k c eu
    obtain ⟨hn, ho, _, _, rfl⟩ := hx.slc
    obtain ⟨hm, hp, _, _, rfl⟩ := hy.slc
    split
    · rename_i s es
      split
      · rename_i hc
        obtain ⟨rfl, h0, hk, hroom⟩ := hc
        refine (need_spec hp (AtIs.c ρ 0)).bind ?_
        rintro _ ρ1 h1 w1 l1 ⟨rfl, hp1, c1⟩
        refine (need_spec (ho.mono l1) (AtIs.c ρ1 0)).bind ?_
        rintro _ ρ2 h2 w2 l2 ⟨rfl, hp2, c2⟩
        simp only [cmpB, decide_eq_true_eq] at c1 c2
        have L2 := Env.le_trans l1 l2
        refine (rdCells_spec (Nat.lt_of_lt_of_le hm (Env.le_len L2).2.2) (hp.mono L2) c1 0 (k.toNat * s)).bind ?_
        rintro xs ρ3 h3 w3 l3 ⟨rfl, hp3, hok, hlen, hget⟩
        have L3 := Env.le_trans L2 l3
        refine (mkI_ok (okB2 (ho.mono L3).1 rfl (.add o (.c (len.toNat * s : Nat))) rfl rfl)).bind ?_
        rintro o' ρ4 h4 w4 l4 ⟨rfl, hp4, ho'⟩
        simp only [IOp.den, (ho.mono L3).2, At.den_c] at ho'
        have L4 := Env.le_trans L3 l4
        have hok4 : SV.oks ρ4.is.length ρ4.bs.length xs = true := SV.oks_mono (Env.le_len l4).1 (Env.le_len l4).2.2 xs hok
        refine (wrCells_spec (P := P) (Nat.lt_of_lt_of_le hn (Env.le_len L4).2.2) ho' (by omega) xs hok4 0).bind ?_
        rintro _ ρ5 h5 w5 l5 hst
        have L5 := Env.le_trans L4 l5
        have hat : ∀ {ρ' : Env}, ρ.le ρ' → ρ'.at n o = ρ.at n o := fun {ρ'} l => by obtain ⟨τ, rfl⟩ := l; exact Env.at_app hn ho.1
        have hatp : ρ2.at m p = ρ.at m p := by obtain ⟨τ, rfl⟩ := L2; exact Env.at_app hm hp.1
        have hdens : SV.dens ρ4 xs = SV.dens ρ3 xs := by obtain ⟨τ, rfl⟩ := l4; exact SV.dens_app xs hok
        refine MSpec.ret ⟨_, ⟨?_, rfl⟩, ?_⟩
        · simp only [SV.ok, Bool.and_eq_true, decide_eq_true_eq]
          exact ⟨Nat.lt_of_lt_of_le hn (Env.le_len L5).2.2, (ho.mono L5).1, rfl, rfl⟩
        · have ei : ∃ i, P.info? elem = some i ∧ i.size = s := by
            unfold sizeT at es
            cases hi : P.info? elem with
            | none => rw [hi] at es; cases es
            | some i => rw [hi] at es; exact ⟨i, rfl, by simpa using es⟩
          obtain ⟨i, hi, his⟩ := ei
          have hll : (SV.dens ρ3 xs).length = k.toNat * i.size := by rw [SV.dens_eq, his]; simpa using hlen
          have hf := run_firstCells_some (P := P) w4 i.size k.toNat (ρ.at m p) k.toNat (c.den ρ.is).toNat (SV.dens ρ3 xs) hll (fun j v hj => by have := hget j v hj; rw [hatp, Nat.zero_add] at this; exact this)
          have hroom' : len.toNat + k.toNat ≤ cap.toNat := by omega
          have hadd : ρ4.at n o' = (ρ.at n o).add (len.toNat * i.size) := by
            have e1 : o'.den ρ4.is = o.den ρ.is + ((len.toNat * s : Nat) : Int) := ho'.2
            have e2 : ρ4.b n = ρ.b n := by obtain ⟨τ, rfl⟩ := L4; exact Env.b_app hn
            have e3 : (o.den ρ.is + ((len.toNat * s : Nat) : Int)).toNat = (o.den ρ.is).toNat + len.toNat * s := by omega
            simp only [Env.at, e1, e2, e3, Addr.add, his]
            by_cases hz : len.toNat * s = 0 <;> simp [hz, Nat.add_assoc]
          rw [hdens, hadd] at hst
          have e4 : (len + k).toNat = len.toNat + k.toNat := by omega
          simp [Builtin.append_, run_underlying eu, sizeOf, typeInfo, hi, Builtin.lenOf, hroom', hf, hst, SV.den, hat L5, e4]
      · exact MSpec.no
    · exact MSpec.no
  · exact MSpec.no

theorem constI_is {sl : Slots} {a : Act} (r : RepS ρ sl a) {x : Operand} {n : Int} (e : constI (evalO sl x) = some n) : ∃ k, a.eval x = .int k n := by
  unfold constI at e
  split at e
  · rename_i k m hx
    cases e
    obtain ⟨_, hv⟩ := (evalO_is r hx).int
    exact ⟨k, by simpa using hv⟩
  · cases e
theorem opZ_spec {ro : List (Addr × Value)} (hro : RoOk C ro) {sl : Slots} {a : Act} (r : RepS ρ sl a) (o : Oper) :
    MSpec Φ C (opZ P ro (evalO sl) o) ρ h w (OpDoes P a.eval o w) := by
  obtain ⟨dst, op, type, pos, after, guard⟩ := o
  unfold opZ
  split
  · rename_i src dstt x ho
    simp only at ho
    subst ho
    split
    · rename_i n p len cap hx
      refine (bytesM_spec (P := P) (evalO_is r hx)).mono ?_
      rintro sv ρ1 h1 w1 l ⟨v, hv, hr⟩
      exact ⟨v, hv, .inl (by simp [execOp, hr])⟩
    · exact opY_spec hro r _
  · rename_i t l c ho
    simp only at ho
    subst ho
    split
    · rename_i x y hx hy
      split
      · exact opY_spec hro r _
      · obtain ⟨k, e1⟩ := constI_is r hx
        obtain ⟨k', e2⟩ := constI_is r hy
        refine (makeRoomM_spec (P := P) (k := k) (k' := k')).mono ?_
        rintro sv ρ1 h1 w1 l ⟨v, hv, hr⟩
        exact ⟨v, hv, .inl (by simp [execOp, e1, e2, hr])⟩
    · exact opY_spec hro r _
  · rename_i c ho
    simp only at ho
    subst ho
    split
    · rename_i x y t t' hc ha ht
      obtain ⟨callee, args, argTypes⟩ := c
      simp only at hc ha ht
      subst hc
      have ea : args = #[x, y] := Array.ext' (by simpa using ha)
      have et : argTypes = #[t, t'] := Array.ext' (by simpa using ht)
      subst ea; subst et
      refine with1_spec (fun z hz => evalO_is r hz) fun u hu => with1_spec (fun z hz => evalO_is r hz) fun v hv => ?_
      refine (appendM_spec (P := P) (ty := type) hu hv).mono ?_
      rintro sv ρ1 h1 w1 l ⟨z, hz, hr⟩
      exact ⟨z, hz, .inl (by simp [execOp, resolve, invoke, builtin, hr])⟩
    · exact opY_spec hro r _
  · exact opY_spec hro r _
end
end Go.Sx
/- A block of cells as a list of numbers; a stretch of numbers as a list. -/
set_option linter.unusedVariables false
namespace Go.Sx

/-- Is it known that this is not 0? -/
def H.pos (h : H) (a : At) : Bool := match cmpR .neq (h.range a) (some (0, 0)) with | some b => b | none => false
/-- A block whose cells are numbers is told by a list from here on. -/
def toArr (n : Nat) : M Unit := fun h k =>
  match h.blk n with
  | some (.cells xs sz el) => (match numsOf xs with
    | some qs => if h.pos sz then (do
        let l ← mkL (.lit (qs.map (·.2)))
        fun h k => k () (h.setBlk n (.arr (period (qs.map (·.1))) l (.c qs.length) sz el)) : M Unit) h k else .fail 400
    | none => k () h)
  | _ => k () h

section
variable {Φ : Phi} {C : Ctx} {ρ : Env} {h : H} {w : World} {P : Program}
theorem pos_ok (f : Facts C ρ h w) {a : At} (e : h.pos a = true) : a.den ρ.is ≠ 0 := by
  unfold H.pos at e
  split at e
  · rename_i b eb
    subst e
    have := cmpR_ok (y := 0) (range_ok f a) (by simp [inR]) eb
    simpa [cmpB] using this
  · cases e
theorem blk_setBlk {h : H} {n : Nat} {b : Blk} (m : Nat) : (h.setBlk n b).blk m = if n = m then some b else h.blk m := by
  unfold H.setBlk H.swap H.blk
  simp only [List.cons_append, List.nil_append, List.find?_cons]
  by_cases e : n = m
  · simp [e]
  · have e' : (n == m) = false := by simpa using e
    simp only [e', if_neg e]
    congr 1
    generalize h.hp = L
    induction L with
    | nil => rfl
    | cons x L ih =>
      rw [List.filter_cons]
      by_cases hx : x.1 = n
      · have h1 : (!([n] : List Nat).contains x.1) = false := by simp [hx]
        have h2 : (x.1 == m) = false := by rw [hx]; exact e'
        rw [if_neg (by rw [h1]; exact Bool.false_ne_true)]
        rw [List.find?_cons, h2]
        exact ih
      · have h1 : (!([n] : List Nat).contains x.1) = true := by simpa using hx
        rw [if_pos h1, List.find?_cons, List.find?_cons, ih]
theorem toArr_spec {n : Nat} : MSpec Φ C (toArr n) ρ h w fun _ ρ' h' w' => w' = w ∧ ∀ m W, KW C ρ' h' m W ↔ KW C ρ h m W := by
  refine MSpec.rep fun r0 => ?_
  have same : ∀ k : Unit → H → Tree, (Tree.den Φ (k () h) ρ.is ρ.ls) → ∃ (a : Unit) (ρ' : Env) (h' : H) (w' : World), ρ.le ρ' ∧ RepH C ρ' h' w' ∧ (k a h').den Φ ρ'.is ρ'.ls ∧ w' = w ∧ ∀ m W, KW C ρ' h' m W ↔ KW C ρ h m W :=
    fun k hk => ⟨(), ρ, h, w, Env.le_refl ρ, r0, hk, rfl, fun _ _ => Iff.rfl⟩
  intro r k hk
  unfold toArr at hk
  split at hk
  · rename_i xs sz el eb
    split at hk
    · rename_i qs eq
      split at hk
      · rename_i hpos
        have fc := r0.fact
        have hb := fc.heap _ (blk_mem eb)
        have hin := hb.inB
        simp only [Blk.inB, Bool.and_eq_true] at hin
        have hn := numsOf_is hin.1 eq
        have hsz := pos_ok fc hpos
        obtain ⟨l, ρ1, h1, w1, l1, r1, d1, e1, hp1, hL⟩ := mkL_ok (Φ := Φ) (C := C) (w := w) (o := .lit (qs.map (·.2))) (by
          simp only [LOp.okB]
          refine List.all_eq_true.2 fun b hb => ?_
          obtain ⟨q, hqm, rfl⟩ := List.mem_map.1 hb
          exact hn.2.1 q hqm) r (fun l h' => k () (h'.setBlk n (.arr (period (qs.map (·.1))) l (.c qs.length) sz el))) hk
        subst e1
        have hLv : ρ1.ls.getD l [] = qs.map fun q => q.2.den ρ.is := by rw [hL.2]; simp [LOp.den]
        have hb1 : ρ1.b n = ρ.b n := by obtain ⟨τ, rfl⟩ := l1; exact Env.b_app hb.lt
        have hsz1 : sz.den ρ1.is = sz.den ρ.is := (AtIs.mono ⟨hin.2, rfl⟩ l1).2
        have hcells : cellsOf (period (qs.map (·.1))) (qs.map fun q => q.2.den ρ.is) = SV.dens ρ xs := by
          rw [period_cells (by simp), nums_cells, hn.2.2]
        have eb1 : h1.blk n = some (.cells xs sz el) := by rw [blk_of_hp hp1]; exact eb
        have iff : ∀ W, (Blk.arr (period (qs.map (·.1))) l (.c qs.length) sz el).holds C ρ1 W n ↔ (Blk.cells xs sz el).holds C ρ W n := by
          intro W
          simp only [Blk.holds, hLv, hb1, hsz1, hcells, At.den_c]
          constructor
          · intro hh
            exact hh.2.2 hsz
          · intro hh
            exact ⟨by simp, fun hz => absurd hz hsz, fun _ => hh⟩
        refine ⟨(), ρ1, h1.setBlk n (.arr (period (qs.map (·.1))) l (.c qs.length) sz el), w1, l1, ?_, d1, rfl, fun m W => ⟨fun hW => ⟨hW.old, fun b' hb' => ?_⟩, fun hW => ⟨hW.old, fun b' hb' => ?_⟩⟩⟩
        · refine r1.setBlk eb1 ?_ rfl (fun _ _ => rfl) rfl rfl ?_ ?_
          · simp [Blk.phys, hsz1, hsz]
          · simp only [Blk.inB, Bool.and_eq_true, decide_eq_true_eq]
            exact ⟨hL.1, rfl, At.lt_mono hin.2 (Env.le_len l1).1⟩
          · exact (iff w1).2 hb.holds
        · by_cases hm : n = m
          · subst hm
            rw [eb] at hb'
            cases hb'
            exact (iff W).1 (hW.blk _ (by rw [blk_setBlk, if_pos rfl]))
          · have h3 := hW.blk b' (by rw [blk_setBlk, if_neg hm, blk_of_hp hp1]; exact hb')
            have hok := fc.heap _ (blk_mem hb')
            obtain ⟨τ, rfl⟩ := l1
            exact (Blk.holds_app hok.lt hok.inB).1 h3
        · by_cases hm : n = m
          · subst hm
            rw [blk_setBlk, if_pos rfl] at hb'
            cases hb'
            exact (iff W).2 (hW.blk _ eb)
          · rw [blk_setBlk, if_neg hm, blk_of_hp hp1] at hb'
            have h3 := hW.blk b' hb'
            have hok := fc.heap _ (blk_mem hb')
            obtain ⟨τ, rfl⟩ := l1
            exact (Blk.holds_app hok.lt hok.inB).2 h3
      · exact hk.elim
    · exact same k hk
  · exact same k hk

/-! ### A stretch of numbers -/
def H.zeroAt (h : H) (a : At) : Bool := match h.fixed a with | some n => n == 0 | none => false
/-- The numbers from 'o' on, 'c' of them, of a block that is told by a list. -/
def cutList (l : Nat) (ks : List CK) (len o c : At) : M (List CK × Nat) := fun h k =>
  if ks.length = 1 ∨ residue h ks.length 5 o = some 0 then
    (do
      need .geq o (.c 0)
      need .geq c (.c 0)
      let e ← mkI (.add o c)
      need .leq e len
      let l1 ← (if h.zeroAt o then pure l else mkL (.drop l o) : M Nat)
      let l2 ← (if h.zeroAt o && sameAt c len then pure l1 else mkL (.take l1 c) : M Nat)
      pure (ks, l2) : M (List CK × Nat)) h k
  else .fail 401
def rdList (n : Nat) (o c : At) : M (List CK × Nat) := fun h k =>
  match h.blk n with
  | some (.arr ks l len _ _) => cutList l ks len o c h k
  | some (.ro ks l len) => cutList l ks len o c h k
  | _ => .fail 402

theorem cellsOf_drop {ks : List CK} {L : List Int} {o : Nat} (hk : ks.length = 1 ∨ o % ks.length = 0) : cellsOf ks (L.drop o) = (cellsOf ks L).drop o := by
  apply List.ext_getElem?
  intro i
  simp only [cellsOf, List.getElem?_mapIdx, List.getElem?_drop]
  congr 1
  funext n
  unfold cellAt
  rcases hk with hk | hk
  · simp [hk, Nat.mod_one]
  · rw [Nat.add_mod, hk, Nat.zero_add, Nat.mod_mod]
theorem cellsOf_take {ks : List CK} {L : List Int} {c : Nat} : cellsOf ks (L.take c) = (cellsOf ks L).take c := by
  apply List.ext_getElem?
  intro i
  simp only [cellsOf, List.getElem?_mapIdx, List.getElem?_take]
  split <;> rfl
theorem zeroAt_ok (f : Facts C ρ h w) {a : At} (e : h.zeroAt a = true) : a.den ρ.is = 0 := by
  unfold H.zeroAt at e
  split at e
  · rename_i n en
    rw [fixed_ok f en]; simpa using e
  · cases e
theorem cutList_spec {l : Nat} {ks : List CK} {len o c : At} {L : List Int} {zo zc : Int} (hl : LIs ρ l L) (hlen : AtIs ρ len L.length) (ho : AtIs ρ o zo) (hc : AtIs ρ c zc) :
    MSpec Φ C (cutList l ks len o c) ρ h w fun r ρ' h' w' => w' = w ∧ h'.hp = h.hp ∧ 0 ≤ zo ∧ 0 ≤ zc ∧ zo + zc ≤ L.length ∧ r.1 = ks ∧ LIs ρ' r.2 ((L.drop zo.toNat).take zc.toNat) ∧ (ks.length = 1 ∨ zo.toNat % ks.length = 0) := by
  refine MSpec.rep fun r0 => ?_
  intro r k hk
  unfold cutList at hk
  split at hk
  · rename_i hres
    have hmod : 0 ≤ zo → (ks.length = 1 ∨ zo.toNat % ks.length = 0) := by
      intro h0
      rcases hres with h1 | h1
      · exact .inl h1
      · right
        have := residue_ok r0.fact 5 o 0 h1
        rw [ho.val] at this
        obtain ⟨m, hm⟩ := Int.eq_ofNat_of_zero_le h0
        rw [hm] at this ⊢
        simp only [Int.toNat_natCast]
        exact_mod_cast this
    have key : MSpec Φ C (do
        need .geq o (.c 0)
        need .geq c (.c 0)
        let e ← mkI (.add o c)
        need .leq e len
        let l1 ← (if h.zeroAt o then pure l else mkL (.drop l o) : M Nat)
        let l2 ← (if h.zeroAt o && sameAt c len then pure l1 else mkL (.take l1 c) : M Nat)
        pure (ks, l2) : M (List CK × Nat)) ρ h w fun r ρ' h' w' => w' = w ∧ h'.hp = h.hp ∧ 0 ≤ zo ∧ 0 ≤ zc ∧ zo + zc ≤ L.length ∧ r.1 = ks ∧ LIs ρ' r.2 ((L.drop zo.toNat).take zc.toNat) ∧ (ks.length = 1 ∨ zo.toNat % ks.length = 0) := by
      refine (need_spec ho (AtIs.c ρ 0)).bind ?_
      rintro _ ρ1 h1 w1 l1 ⟨rfl, hp1, c1⟩
      refine (need_spec (hc.mono l1) (AtIs.c ρ1 0)).bind ?_
      rintro _ ρ2 h2 w2 l2 ⟨rfl, hp2, c2⟩
      have l12 := Env.le_trans l1 l2
      refine (add_spec (ho.mono l12) (hc.mono l12)).bind ?_
      rintro e ρ3 h3 w3 l3 ⟨rfl, hp3, he⟩
      have l13 := Env.le_trans l12 l3
      refine (need_spec he (hlen.mono l13)).bind ?_
      rintro _ ρ4 h4 w4 l4 ⟨rfl, hp4, c3⟩
      have l14 := Env.le_trans l13 l4
      simp only [cmpB, decide_eq_true_eq] at c1 c2 c3
      have drop : MSpec Φ C (if h.zeroAt o then pure l else mkL (.drop l o) : M Nat) ρ4 h4 w4 fun l' ρ' h' w' => w' = w4 ∧ h'.hp = h4.hp ∧ LIs ρ' l' (L.drop zo.toNat) := by
        split
        · rename_i hz
          have : zo = 0 := by rw [← ho.val]; exact zeroAt_ok r0.fact hz
          subst this
          exact MSpec.ret ⟨rfl, rfl, by simpa using hl.mono l14⟩
        · refine (mkL_ok (o := .drop l o) (by simp only [LOp.okB, Bool.and_eq_true, decide_eq_true_eq]; exact ⟨(hl.mono l14).1, (ho.mono l14).1⟩)).mono ?_
          rintro l' ρ' h' w' ll ⟨e1, e2, e3⟩
          refine ⟨e1, e2, ?_⟩
          simp only [LOp.den, (hl.mono l14).2, (ho.mono l14).val] at e3
          exact e3
      refine drop.bind ?_
      rintro la ρ5 h5 w5 l5 ⟨rfl, hp5, hla⟩
      have l15 := Env.le_trans l14 l5
      have take : MSpec Φ C (if h.zeroAt o && sameAt c len then pure la else mkL (.take la c) : M Nat) ρ5 h5 w5 fun l' ρ' h' w' => w' = w5 ∧ h'.hp = h5.hp ∧ LIs ρ' l' ((L.drop zo.toNat).take zc.toNat) := by
        split
        · rename_i hz
          simp only [Bool.and_eq_true] at hz
          have hz0 : zo = 0 := by rw [← ho.val]; exact zeroAt_ok r0.fact hz.1
          have hcl : c = len := of_decide_eq_true hz.2
          subst hcl
          have : zc = L.length := by rw [← hc.val, hlen.val]
          subst this
          subst hz0
          refine MSpec.ret ⟨rfl, rfl, ?_⟩
          have e2 : (List.drop (0 : Int).toNat L).take (L.length : Int).toNat = L.drop (0 : Int).toNat := by simp
          rw [e2]; exact hla
        · refine (mkL_ok (o := .take la c) (by simp only [LOp.okB, Bool.and_eq_true, decide_eq_true_eq]; exact ⟨hla.1, (hc.mono l15).1⟩)).mono ?_
          rintro l' ρ' h' w' ll ⟨e1, e2, e3⟩
          refine ⟨e1, e2, ?_⟩
          simp only [LOp.den, hla.2, (hc.mono l15).val] at e3
          exact e3
      refine take.bind ?_
      rintro lb ρ6 h6 w6 l6 ⟨rfl, hp6, hlb⟩
      exact MSpec.ret ⟨rfl, by rw [hp6, hp5, hp4, hp3, hp2, hp1], c1, c2, c3, rfl, hlb, hmod c1⟩
    exact key r k hk
  · exact hk.elim
/-- What stands in a stretch. -/
theorem rdList_spec {n : Nat} {o c : At} {zo zc : Int} (hn : n < ρ.bs.length) (ho : AtIs ρ o zo) (hc : AtIs ρ c zc) :
    MSpec Φ C (rdList n o c) ρ h w fun r ρ' h' w' => w' = w ∧ h'.hp = h.hp ∧ 0 ≤ zo ∧ 0 ≤ zc ∧ ∃ M : List Int, LIs ρ' r.2 M ∧ (M.length : Int) = zc ∧
      ∀ j v, (cellsOf r.1 M)[j]? = some v → w.cell? ((ρ.at n o).add j) = some v := by
  refine MSpec.rep fun r0 => ?_
  intro r k hk
  unfold rdList at hk
  have fc := r0.fact
  have fin : ∀ {ks : List CK} {L : List Int}, 0 ≤ zo → 0 ≤ zc → zo + zc ≤ L.length → (ks.length = 1 ∨ zo.toNat % ks.length = 0) →
      (∀ j, j < L.length → w.cell? ⟨(ρ.b n).1, (ρ.b n).2 + j, none⟩ = some (cellAt ks j (L.getD j 0))) →
      ∀ j v, (cellsOf ks ((L.drop zo.toNat).take zc.toNat))[j]? = some v → w.cell? ((ρ.at n o).add j) = some v := by
    intro ks L h0 h1 h2 hk hcell j v hv
    rw [cellsOf_take, cellsOf_drop hk, List.getElem?_take] at hv
    split at hv
    · rename_i hj
      rw [List.getElem?_drop, cellsOf_get (by omega)] at hv
      have := hcell (zo.toNat + j) (by omega)
      rw [← hv, ← this]
      unfold Env.at Addr.add
      rw [ho.val]
      split
      · rename_i h; subst h; simp
      · simp [Nat.add_assoc]
    · cases hv
  split at hk
  · rename_i ks l len sz el eb
    have hb := fc.heap _ (blk_mem eb)
    have hin := hb.inB
    have hh := hb.holds
    simp only [Blk.inB, Bool.and_eq_true, decide_eq_true_eq] at hin
    simp only [Blk.holds] at hh
    obtain ⟨q, ρ1, h1, w1, l1, r1, d1, e1, hp1, z0, z1, z2, ek, hM, hmod⟩ := cutList_spec (L := ρ.ls.getD l []) ⟨hin.1, rfl⟩ ⟨hin.2.1, hh.1.symm⟩ ho hc r k hk
    subst e1
    refine ⟨q, ρ1, h1, w1, l1, r1, d1, rfl, hp1, z0, z1, _, hM, by rw [List.length_take, List.length_drop]; omega, ?_⟩
    rw [ek]
    refine fin z0 z1 z2 hmod fun j hj => ?_
    have hz : sz.den ρ.is ≠ 0 := fun hz => by rw [hh.2.1 hz] at hj; simp at hj
    obtain ⟨h0, hcl⟩ := hh.2.2 hz
    rw [h0, Nat.zero_add]
    exact hcl.cell (cellsOf_get hj)
  · rename_i ks l len eb
    have hb := fc.heap _ (blk_mem eb)
    have hin := hb.inB
    have hh := hb.holds
    simp only [Blk.inB, Bool.and_eq_true, decide_eq_true_eq] at hin
    simp only [Blk.holds] at hh
    obtain ⟨q, ρ1, h1, w1, l1, r1, d1, e1, hp1, z0, z1, z2, ek, hM, hmod⟩ := cutList_spec (L := ρ.ls.getD l []) ⟨hin.1, rfl⟩ ⟨hin.2, hh.2.2.2.1.symm⟩ ho hc r k hk
    subst e1
    refine ⟨q, ρ1, h1, w1, l1, r1, d1, rfl, hp1, z0, z1, _, hM, by rw [List.length_take, List.length_drop]; omega, ?_⟩
    rw [ek]
    exact fin z0 z1 z2 hmod fun j hj => r0.frame.cell hh.1 hh.2.1 (hh.2.2.1 j hj)
  · exact hk.elim
end
end Go.Sx
/- Appends: to a slice that is the whole of its block. -/
set_option linter.unusedVariables false
namespace Go.Sx

section
variable {P : Program} {w : World}
/-- A slice that lies at the start of its block, or nil. -/
def Whole (w : World) (e : TypeId) (size : Nat) (v : Value) (n : Nat) (xs : List Value) : Prop :=
  (v = .slice none 0 0 ∧ n = 0 ∧ xs = []) ∨ (∃ a, v = .slice (some a) 0 0 ∧ n = 0 ∧ xs = []) ∨
  ∃ g cap cur, v = .slice (some ⟨g, 0, none⟩) n cap ∧ w.heap[g]? = some (.cells cur e (0, 0)) ∧ n ≤ cap ∧ cap ≤ 9223372036854775807 ∧ cur.size = cap * size ∧ cur.toList.take (n * size) = xs ∧ xs.length = n * size
def capOf : Value → Nat
  | .slice _ _ c => c
  | _ => 0
/-- The block that an append may write to. -/
def Value.lentBlock (v : Value) : Option Nat := if capOf v = 0 then none else v.ownBlock
/-- What a growing append leaves. -/
structure Grown (w w' : World) (e : TypeId) (size : Nat) (v : Value) (g cap need : Nat) (xs : List Value) : Prop where
  cells : ∃ rest : List Value, w'.heap[g]? = some (.cells (xs ++ rest).toArray e (0, 0)) ∧ xs.length + rest.length = cap * size
  len : xs.length = need * size
  ge : need ≤ cap
  le : cap ≤ 9223372036854775807
  by_ : w.grownBy w' (Value.lentBlock v)
  place : w.heap.size ≤ g ∨ Value.lentBlock v = some g
theorem grown_cells {w' : World} {g : Nat} {cur : Array Value} {e : TypeId} {xs : List Value} {k sz : Nat} (hg : w'.heap[g]? = some (.cells cur e (0, 0))) (hs : cur.size = sz) (ht : cur.toList.take k = xs) :
    ∃ rest : List Value, w'.heap[g]? = some (.cells (xs ++ rest).toArray e (0, 0)) ∧ xs.length + rest.length = sz := by
  refine ⟨cur.toList.drop k, ?_, ?_⟩
  · rw [← ht, List.take_append_drop]; simpa using hg
  · rw [← ht, ← List.length_append, List.take_append_drop]; simpa using hs
theorem append_whole {t ty e : TypeId} {i : TypeInfo} {z : Value} (ht : P.underlying t = some (.slice e)) (hi : P.info? e = some i) (hz : i.zero = some z)
    (hzs : z.cells.size = i.size) {v : Value} {n : Nat} {xs : List Value} (hw : Whole w e i.size v n xs)
    {a : Addr} {m c : Nat} {news : List Value} (hl : news.length = m * i.size) (hnews : ∀ j u, news[j]? = some u → w.cell? (a.add j) = some u) (h1 : ∀ u ∈ news, u.oneCell' = true)
    (hm : 0 < m) (h63 : n + m ≤ 1000000) (hbytes : i.bytes ≤ 1000) :
    ∃ g cap w', (Builtin.append_ #[t, t] ty #[v, .slice (some a) m c]).run P w = .ok (.slice (some ⟨g, 0, none⟩) (n + m) cap) w' ∧ Grown w w' e i.size v g cap (n + m) (xs ++ news) := by
  have hb2 : (n + m) * i.bytes ≤ 140737488355328 := by
    have := Nat.mul_le_mul h63 hbytes
    omega
  have grow : ∀ (old : Nat) (ys : List Value), ys.length = n * i.size → ys = xs → old < n + m →
      Grown w (w.drew.alloc (.cells (ys.toArray ++ news.toArray ++ Builtin.zeroCells z.cells (grownCap w (n + m) old e - (n + m))) e)) e i.size v w.heap.size (grownCap w (n + m) old e) (n + m) (xs ++ news) := by
    intro old ys hyl hy ho
    subst hy
    have hge := grownCap_ge w (n + m) old e
    have hcm : grownCap w (n + m) old e ≤ 9223372036854775807 := by
      have := grownCap_le_maxLen w (n + m) old e (by simp only [maxLen]; omega)
      simpa [maxLen] using this
    have hlen : (ys ++ news).length = (n + m) * i.size := by rw [List.length_append, hyl, hl, Nat.add_mul]
    refine ⟨grown_cells (k := (n + m) * i.size) (heap_alloc_new w.drew _) ?_ ?_, hlen, hge, hcm, ⟨rfl, rfl, rfl, by simp, fun k hk _ => heap_alloc_old w.drew _ k hk⟩, .inl (Nat.le_refl _)⟩
    · simp only [Array.size_append, List.size_toArray, size_zeroCells, hzs, hyl, hl, ← Nat.add_mul]
      congr 1
      omega
    · simp only [Array.toList_append, List.append_assoc]
      rw [← List.append_assoc, ← hlen]
      exact List.take_left
  rcases hw with ⟨rfl, rfl, rfl⟩ | ⟨b, rfl, rfl, rfl⟩ | ⟨g, cap, cur, rfl, hg, hnc, hcm, hcs, htake, hxl⟩
  · have hr := run_append_nil (P := P) w t ty e i z ht hi hz a m c news hl hnews (by omega) (by omega) (by simp only [Nat.zero_add] at hb2; omega)
    have hgr := grow 0 [] (by simp) rfl (by omega)
    simp only [Nat.zero_add, List.nil_append, Array.empty_append] at hgr ⊢
    exact ⟨_, _, _, hr, hgr⟩
  · have hr := run_append_grow (P := P) w t ty e i z ht hi hz b 0 0 [] (by simp) (fun j v h => by simp at h) a m c news hl hnews (by omega) (by omega) (growslice_fits (by omega) (by simpa using hb2))
    have hgr := grow 0 [] (by simp) rfl (by omega)
    simp only [Nat.zero_add, List.nil_append, Array.empty_append] at hgr hr ⊢
    exact ⟨_, _, _, hr, hgr⟩
  · by_cases hroom : n + m ≤ cap
    · have hfit : n * i.size + news.length ≤ cur.size := by rw [hl, hcs, ← Nat.add_mul]; exact Nat.mul_le_mul_right _ hroom
      have hr := run_append_room (P := P) w t ty e i ht hi g n cap cur hg a m c news hl hnews h1 hroom hfit
      have hlen : (xs ++ news).length = (n + m) * i.size := by rw [List.length_append, hxl, hl, Nat.add_mul]
      have hlent : Value.lentBlock (.slice (some ⟨g, 0, none⟩) n cap) = some g := by
        have h0 : cap ≠ 0 := by omega
        simp [Value.lentBlock, capOf, Value.ownBlock, h0]
      refine ⟨_, _, _, hr, grown_cells (k := (n + m) * i.size) (setRow_heap w g cur _ e _ hg) ?_ ?_, hlen, hroom, hcm, ⟨rfl, rfl, rfl, by simp, fun k _ hk => setRow_other w g k _ (fun e => hk (by rw [hlent, e]))⟩, .inr hlent⟩
      · have : n * i.size + m * i.size = (n + m) * i.size := (Nat.add_mul ..).symm
        simp only [List.size_toArray, List.length_append, List.length_take, List.length_drop, Array.length_toList]
        omega
      · rw [htake, ← hlen]
        exact List.take_left
    · have holds : ∀ j u, xs[j]? = some u → w.cell? ((⟨g, 0, none⟩ : Addr).add j) = some u := by
        intro j u hu
        have hadd : (⟨g, 0, none⟩ : Addr).add j = ⟨g, j, none⟩ := by unfold Addr.add; split <;> simp_all
        rw [hadd, cell_of_row w g j cur e (0, 0) hg]
        rw [← htake, List.getElem?_take] at hu
        split at hu
        · simpa using hu
        · cases hu
      have hr := run_append_grow (P := P) w t ty e i z ht hi hz ⟨g, 0, none⟩ n cap xs hxl holds a m c news hl hnews (by omega) (by omega) (growslice_fits (by omega) hb2)
      exact ⟨_, _, _, hr, grow cap xs hxl rfl (by omega)⟩
/-- Nothing is appended. -/
theorem append_none {t ty e : TypeId} {i : TypeInfo} (ht : P.underlying t = some (.slice e)) (hi : P.info? e = some i) {base a : Option Addr} {n cap c : Nat} (hn : n ≤ cap) :
    (Builtin.append_ #[t, t] ty #[.slice base n cap, .slice a 0 c]).run P w = .ok (.slice base n cap) w := by
  have hl : ∀ b : Addr, (loadCells b 0).run P w = .ok #[] w := fun b => run_loadCells_list w b [] (fun j v h => by simp at h)
  cases base <;> cases a <;> simp [Builtin.append_, run_underlying ht, sizeOf, typeInfo, hi, Builtin.lenOf, hn, Builtin.firstCells, storeCells, hl]
end

/-- Where a slice lies: at the start of its block. -/
inductive Dst where
  | nil
  | slc (n : Nat) (len cap : At)
  | vec (n : Nat) (len cap : At)
def dstOf (h : H) : SV → Option Dst
  | .nils => some .nil
  | .slc n o len cap => if h.zeroAt o then some (.slc n len cap) else none
  | .vec n len cap => some (.vec n len cap)
  | _ => none
def Dst.name : Dst → Option Nat
  | .nil => none
  | .slc n _ _ | .vec n _ _ => some n
def Dst.len : Dst → At
  | .nil => .c 0
  | .slc _ l _ | .vec _ l _ => l
def Dst.cap : Dst → At
  | .nil => .c 0
  | .slc _ _ c | .vec _ _ c => c
def At.small : At := .c 1000000
/-- The new block in the place of the old one. -/
def growTo (d : Dst) (out : SV) (b : Blk) : M SV := fun h k => k out { h.swap d.name.toList [(h.nb, b)] with nb := h.nb + 1 }
/-- The destination's numbers with the new ones behind them. -/
def oldNums1 (s : Nat) (d : Dst) (l : Nat) (bl0 sz0 : At) (m : Nat) : M Nat := do
  need .geq d.len (.c 0)
  need .leq d.len d.cap
  need .leq d.cap (.c 9223372036854775807)
  let e1 ← mkI (.mul d.len (.c s))
  need .leq e1 bl0
  let e2 ← mkI (.mul d.cap (.c s))
  need .eql e2 sz0
  let l1 ← (if sameAt e1 bl0 then pure l else mkL (.take l e1) : M Nat)
  mkL (.app l1 m)
def oldNums (elem : TypeId) (s : Nat) (d : Dst) (q : List CK × Nat) : M Nat := fun h kk =>
  match d.name with
  | none => kk q.2 h
  | some n => (match h.blk n with
    | some (.arr ks0 l bl0 sz0 el) => if ks0 = q.1 ∧ el = elem ∧ s % q.1.length = 0 then oldNums1 s d l bl0 sz0 q.2 h kk else .fail 411
    | _ => .fail 412)
/-- Appending numbers. -/
def appNums (elem : TypeId) (s : Nat) (d : Dst) (m : Nat) (p k : At) : M SV := do
  let need' ← mkI (.add d.len k)
  need .leq need' At.small
  let ks ← mkI (.mul k (.c s))
  let q ← rdList m p ks
  let l ← oldNums elem s d q
  let cap ← anyI need' (.c 9223372036854775807)
  let bl ← mkI (.mul need' (.c s))
  let sz ← mkI (.mul cap (.c s))
  fun h kk => growTo d (.slc h.nb (.c 0) need' cap) (.arr q.1 l bl sz elem) h kk
/-- Appending cells, their number known. -/
def oldCells1 (s : Nat) (d : Dst) (l0 : Int) (xs : List SV) (sz0 : At) : M (Nat × List SV) := do
  need .leq (.c l0) d.cap
  need .leq d.cap (.c 9223372036854775807)
  let e2 ← mkI (.mul d.cap (.c s))
  need .eql e2 sz0
  pure (l0.toNat, xs.take (l0.toNat * s))
def oldCells (elem : TypeId) (s : Nat) (d : Dst) (k : Nat) : M (Nat × List SV) := fun h kk =>
  match d.name with
  | none => kk (0, []) h
  | some n => (match h.fixed d.len, h.blk n with
    | some l0, some (.cells xs sz0 el) => if el = elem ∧ 0 ≤ l0 ∧ l0.toNat * s ≤ xs.length ∧ l0.toNat + k ≤ 1000000 then oldCells1 s d l0 xs sz0 h kk else .fail 413
    | _, _ => .fail 414)
def chkOne (ys : List SV) : M Unit := if ys.all SV.one then pure () else M.no 419
def appCells (elem : TypeId) (s : Nat) (d : Dst) (m : Nat) (p : At) (k : Nat) : M SV := do
  need .geq p (.c 0)
  let ys ← rdCells m p 0 (k * s)
  chkOne ys
  let q ← oldCells elem s d k
  let cap ← anyI (.c (q.1 + k : Nat)) (.c 9223372036854775807)
  let sz ← mkI (.mul cap (.c s))
  fun h kk => growTo d (.slc h.nb (.c 0) (.c (q.1 + k : Nat)) cap) (.cells (q.2 ++ ys) sz elem) h kk
def cellsDst (h : H) (d : Dst) : Bool :=
  match d with
  | .nil => true
  | .slc n len _ | .vec n len _ => (h.fixed len).isSome && (match h.blk n with | some (.cells _ _ _) => true | _ => false)
def appGo (elem : TypeId) (s : Nat) (d : Dst) (m : Nat) (p k : At) : M SV := fun h kk =>
  match h.fixed k with
  | some k0 => if cellsDst h d && decide (0 < k0 ∧ k0 ≤ 1000000) then appCells elem s d m p k0.toNat h kk
    else (do
      toArr m
      (match d.name with | some n => toArr n | none => pure ())
      appNums elem s d m p k : M SV) h kk
  | none => (do
      toArr m
      (match d.name with | some n => toArr n | none => pure ())
      appNums elem s d m p k : M SV) h kk
def appMain (elem : TypeId) (s : Nat) (x : SV) (d : Dst) (m : Nat) (p k : At) : M SV := do
  need .geq k (.c 0)
  let e ← mkI (.cmp .eql k (.c 0))
  let b ← dec e
  if b then (do need .leq d.len d.cap; pure x) else appGo elem s d m p k
/-- 'append' of one slice to another one. -/
def append2 (P : Program) (t t' : TypeId) (x y : SV) : M SV := fun h kk =>
  match P.underlying t with
  | some (.slice elem) => (match sizeT P elem, zeroCellsT P elem, P.info? elem with
    | some s, some zs, some inf =>
      if t = t' ∧ 0 < s ∧ zs.length = s ∧ inf.bytes ≤ 1000 then
        (match dstOf h x, y with
        | some d, .slc m p k _ => appMain elem s x d m p k h kk
        | some d, .vec m k c => (do
            let e ← mkI (.cmp .eql c (.c 0))
            let b ← dec e
            if b then (do need .leq d.len d.cap; pure x) else appMain elem s x d m (.c 0) k : M SV) h kk
        | some d, .nils => (do need .leq d.len d.cap; pure x : M SV) h kk
        | _, _ => .fail 415)
      else .fail 416
    | _, _, _ => .fail 417)
  | _ => .fail 418
end Go.Sx
/- Appends are sound. -/
set_option linter.unusedVariables false
namespace Go.Sx
section
variable {Φ : Phi} {C : Ctx} {ρ : Env} {h : H} {w : World} {P : Program}

/-- What a destination is. -/
structure DstIs (ρ : Env) (d : Dst) (v : Value) : Prop where
  name : ∀ n, d.name = some n → n < ρ.bs.length
  len : AtIs ρ d.len (d.len.den ρ.is)
  cap : AtIs ρ d.cap (d.cap.den ρ.is)
  val : (v = .slice none 0 0 ∧ (d = .nil ∨ d.cap.den ρ.is = 0)) ∨ ∃ n, d.name = some n ∧ v = .slice (some ⟨(ρ.b n).1, (ρ.b n).2, none⟩) (d.len.den ρ.is).toNat (d.cap.den ρ.is).toNat
theorem dst_is (f : Facts C ρ h w) {x : SV} {v : Value} {d : Dst} (hx : SvIs ρ x v) (e : dstOf h x = some d) : DstIs ρ d v := by
  unfold dstOf at e
  split at e
  · cases e
    obtain rfl := hx.nils
    exact ⟨(fun n hn => by cases hn), ⟨rfl, rfl⟩, ⟨rfl, rfl⟩, .inl ⟨rfl, .inl rfl⟩⟩
  · rename_i n o len cap
    split at e
    · rename_i hz
      cases e
      obtain ⟨hn, ho, hl, hc, rfl⟩ := hx.slc
      have h0 := zeroAt_ok f hz
      refine ⟨(fun m hm => by cases hm; exact hn), hl, hc, .inr ⟨n, rfl, ?_⟩⟩
      simp [Env.at, h0, Dst.len, Dst.cap]
    · cases e
  · rename_i n len cap
    cases e
    obtain ⟨hn, hl, hc, rfl⟩ := hx.vec
    refine ⟨(fun m hm => by cases hm; exact hn), hl, hc, ?_⟩
    by_cases hz : cap.den ρ.is = 0
    · left; simp [hz, Dst.cap]
    · right; exact ⟨n, rfl, by simp [hz, Dst.len, Dst.cap]⟩
  · cases e
theorem DstIs.mono {ρ' : Env} {d : Dst} {v : Value} (hd : DstIs ρ d v) (l : ρ.le ρ') : DstIs ρ' d v := by
  have e1 : d.len.den ρ'.is = d.len.den ρ.is := (hd.len.mono l).2
  have e2 : d.cap.den ρ'.is = d.cap.den ρ.is := (hd.cap.mono l).2
  refine ⟨fun n hn => Nat.lt_of_lt_of_le (hd.name n hn) (Env.le_len l).2.2, by rw [e1]; exact hd.len.mono l, by rw [e2]; exact hd.cap.mono l, ?_⟩
  rcases hd.val with h1 | ⟨n, hn, h1⟩
  · left; rw [e2]; exact h1
  · right
    refine ⟨n, hn, ?_⟩
    have : ρ'.b n = ρ.b n := by obtain ⟨τ, rfl⟩ := l; exact Env.b_app (hd.name n hn)
    rw [h1, e1, e2, this]

/-- The step to the new memory. -/
theorem growTo_rep (r : RepH C ρ h w) {d : Dst} {v : Value} (hd : DstIs ρ d v) {e : TypeId} {s : Nat} {g cap need : Nat} {xs : List Value} {w' : World} (G : Grown w w' e s v g cap need xs)
    (hold : ∀ n, d.name = some n → d.cap.den ρ.is ≠ 0 → ∃ b, h.blk n = some b ∧ (ρ.b n).1 ∈ b.phys ρ n)
    (hcapv : ∀ n, d.name = some n → 0 ≤ d.cap.den ρ.is)
    {b : Blk} (hph : b.phys (ρ.app ⟨[], [], [(g, 0)]⟩) h.nb = [g]) (hin : b.inB ρ.is.length ρ.ls.length ρ.bs.length = true) (hb : b.holds C (ρ.app ⟨[], [], [(g, 0)]⟩) w' h.nb) :
    RepH C (ρ.app ⟨[], [], [(g, 0)]⟩) { h.swap d.name.toList [(h.nb, b)] with nb := h.nb + 1 } w' := by
  have hlent : ∀ p, Value.lentBlock v = some p → ∃ n, d.name = some n ∧ p = (ρ.b n).1 ∧ ∃ b, h.blk n = some b ∧ p ∈ b.phys ρ n := by
    intro p hp
    unfold Value.lentBlock at hp
    split at hp
    · cases hp
    · rename_i hc
      rcases hd.val with ⟨rfl, _⟩ | ⟨n, hn, rfl⟩
      · simp [Value.ownBlock] at hp
      · simp only [capOf] at hc
        simp only [Value.ownBlock, Option.some.injEq] at hp
        obtain ⟨b, eb, hb⟩ := hold n hn (by omega)
        exact ⟨n, hn, hp.symm, b, eb, by rw [← hp]; exact hb⟩
  have hmine : C.mine g := by
    rcases G.place with hg | hg
    · exact .inl (Nat.le_trans r.frame.size hg)
    · obtain ⟨n, hn, rfl, b0, eb, hp⟩ := hlent g hg
      exact (r.fact.heap _ (blk_mem eb)).mine _ hp
  have hone : ownPhys (ρ.app ⟨[], [], [(g, 0)]⟩) [(h.nb, b)] = [g] := by simp only [ownPhys, List.flatMap_cons, List.flatMap_nil, List.append_nil, hph]
  have := r.change (w' := w') ⟨[], [], [(g, 0)]⟩ (drop := d.name.toList) (news := [(h.nb, b)]) (ni := h.ni) (nl := h.nl) (nb := h.nb + 1) rfl rfl rfl G.by_.size
    (fun p hp hno => G.by_.block p hp fun heq => by
      obtain ⟨n, hn, rfl, b0, eb, hpb⟩ := hlent p heq.symm
      exact hno _ (blk_mem eb) (by simp [hn]) hpb)
    G.by_.os G.by_.output
    (fun q hq => by
      obtain rfl := List.mem_singleton.1 hq
      have L := Env.le_len (Env.le_app ρ ⟨[], [], [(g, 0)]⟩)
      refine ⟨by simp [Env.app, r.nb], Blk.inB_mono L.1 L.2.1 L.2.2 hin, fun p hp => ?_, hb⟩
      simp only [hph] at hp
      rw [List.mem_singleton.1 hp]
      exact hmine)
    (by rw [hone]; simp)
    (fun p hp => by
      rw [hone] at hp
      rw [List.mem_singleton.1 hp]
      rcases G.place with hg | hg
      · exact .inl hg
      · obtain ⟨n, hn, rfl, b0, eb, hpb⟩ := hlent g hg
        exact .inr ⟨_, blk_mem eb, by simp [hn], hpb⟩)
  exact this

/-- What 'append' is to come to. -/
def AppDoes (P : Program) (t : TypeId) (v u : Value) (w : World) : SV → Env → H → World → Prop := fun sv ρ' _ w' => ∃ z, SvIs ρ' sv z ∧ ∀ ty, (Builtin.append_ #[t, t] ty #[v, u]).run P w = .ok z w'

theorem slc_out {nb g : Nat} {need cap : At} {zn zc : Int} (hnb : ρ.bs.length = nb) (hn : AtIs ρ need zn) (hc : AtIs ρ cap zc) :
    SvIs (ρ.app ⟨[], [], [(g, 0)]⟩) (.slc nb (.c 0) need cap) (.slice (some ⟨g, 0, none⟩) zn.toNat zc.toNat) := by
  have l := Env.le_app ρ ⟨[], [], [(g, 0)]⟩
  refine ⟨?_, ?_⟩
  · simp only [SV.ok, Bool.and_eq_true, decide_eq_true_eq]
    exact ⟨by simp [Env.app, hnb], rfl, (hn.mono l).1, (hc.mono l).1⟩
  · have hb : (ρ.app ⟨[], [], [(g, 0)]⟩).b nb = (g, 0) := by rw [← hnb]; exact pushB_at ρ g
    simp only [SV.den, Env.at, hb, (hn.mono l).2, (hc.mono l).2]
    simp

theorem elemInfo {elem : TypeId} {s : Nat} {zs : List SV} {inf : TypeInfo} (es : sizeT P elem = some s) (ez : zeroCellsT P elem = some zs) (ei : P.info? elem = some inf) (hz : zs.length = s) :
    inf.size = s ∧ ∃ z, inf.zero = some z ∧ z.cells.size = inf.size := by
  have h1 : inf.size = s := by unfold sizeT at es; rw [ei] at es; simpa using es
  obtain ⟨z, e2, h2, h3⟩ := zeroCellsT_is ez default
  refine ⟨h1, z, ?_, ?_⟩
  · unfold zeroT at e2; rw [ei] at e2; simpa using e2
  · rw [h3 Env.nil]; simp [SV.dens_eq, hz, h1]

theorem HasCells.whole {p n cap : Nat} {vs : List Value} {sz : Int} {el : TypeId} {s k : Nat} (hc : HasCells w p vs sz el) (hk : k = n * s) (hle : k ≤ vs.length) (hn : n ≤ cap) (hcap : cap ≤ 9223372036854775807) (hsz : sz = ((cap * s : Nat) : Int)) :
    Whole w el s (.slice (some ⟨p, 0, none⟩) n cap) n (vs.take k) := by
  obtain ⟨rest, hr, hl⟩ := hc
  refine .inr (.inr ⟨p, cap, _, rfl, hr, hn, hcap, ?_, ?_, ?_⟩)
  · rw [hsz] at hl
    have : vs.length + rest.length = cap * s := by exact_mod_cast hl
    simpa using this
  · subst hk
    simp [List.take_append_of_le_length hle]
  · subst hk
    rw [List.length_take]; omega

theorem take_cells {ks : List CK} {L : List Int} {k : Nat} : (cellsOf ks L).take k = cellsOf ks (L.take k) := cellsOf_take.symm
theorem cellsOf_app {ks : List CK} {L M : List Int} (h : ks.length = 1 ∨ L.length % ks.length = 0) : cellsOf ks (L ++ M) = cellsOf ks L ++ cellsOf ks M := by
  apply List.ext_getElem?
  intro i
  by_cases hi : i < L.length
  · rw [List.getElem?_append_left (by rw [cellsOf_len]; exact hi)]
    simp [cellsOf, List.getElem?_append_left hi]
  · rw [List.getElem?_append_right (by rw [cellsOf_len]; omega), cellsOf_len]
    simp only [cellsOf, List.getElem?_mapIdx, List.getElem?_append_right (Nat.le_of_not_lt hi)]
    congr 1
    funext n
    unfold cellAt
    rcases h with h | h
    · simp [h, Nat.mod_one]
    · have : i % ks.length = (i - L.length) % ks.length := by
        conv => lhs; rw [show i = L.length + (i - L.length) by omega]
        rw [Nat.add_mod, h, Nat.zero_add, Nat.mod_mod]
      rw [this]
end
end Go.Sx
/- Appends are sound (2). -/
set_option linter.unusedVariables false
namespace Go.Sx
section
variable {Φ : Phi} {C : Ctx} {ρ : Env} {h : H} {w : World} {P : Program}

/-- What stands in the destination. -/
structure OldIs (C : Ctx) (ρ : Env) (h : H) (w : World) (d : Dst) (v : Value) (e : TypeId) (s : Nat) (xs : List Value) : Prop where
  whole : Whole w e s v (d.len.den ρ.is).toNat xs
  len : 0 ≤ d.len.den ρ.is
  old : ∀ n, d.name = some n → d.cap.den ρ.is ≠ 0 → ∃ b, h.blk n = some b ∧ (ρ.b n).1 ∈ b.phys ρ n
  cap : ∀ n, d.name = some n → 0 ≤ d.cap.den ρ.is

theorem okB_take {l : Nat} {c : At} (hl : l < ρ.ls.length) (hc : c.lt ρ.is.length = true) : (LOp.take l c).okB ρ.is.length ρ.ls.length = true := by
  simp only [LOp.okB, Bool.and_eq_true, decide_eq_true_eq]; exact ⟨hl, hc⟩
theorem okB_app {l m : Nat} (hl : l < ρ.ls.length) (hm : m < ρ.ls.length) : (LOp.app l m).okB ρ.is.length ρ.ls.length = true := by
  simp only [LOp.okB, Bool.and_eq_true, decide_eq_true_eq]; exact ⟨hl, hm⟩
theorem DstIs.named {d : Dst} {v : Value} (hd : DstIs ρ d v) {n : Nat} (hn : d.name = some n) :
    (v = .slice none 0 0 ∧ d.cap.den ρ.is = 0) ∨ v = .slice (some ⟨(ρ.b n).1, (ρ.b n).2, none⟩) (d.len.den ρ.is).toNat (d.cap.den ρ.is).toNat := by
  rcases hd.val with ⟨hv, hv2⟩ | ⟨m, hm, hv⟩
  · rcases hv2 with hv2 | hv2
    · subst hv2; cases hn
    · exact .inl ⟨hv, hv2⟩
  · rw [hn] at hm; cases hm; exact .inr hv
theorem DstIs.unnamed {d : Dst} {v : Value} (hd : DstIs ρ d v) (hn : d.name = none) : v = .slice none 0 0 ∧ d.len = .c 0 ∧ d.cap = .c 0 := by
  rcases hd.val with ⟨hv, hv2⟩ | ⟨m, hm, hv⟩
  · cases d
    · exact ⟨hv, rfl, rfl⟩
    · cases hn
    · cases hn
  · rw [hn] at hm; cases hm

theorem oldNums1_spec {elem : TypeId} {s : Nat} (hs : 0 < s) {d : Dst} {v : Value} (hd : DstIs ρ d v) {n : Nat} (hdn : d.name = some n) {ks : List CK} {l m : Nat} {bl0 sz0 : At} (eb : h.blk n = some (.arr ks l bl0 sz0 elem)) (hmod : s % ks.length = 0)
    {N : List Int} (hN : LIs ρ m N) :
    MSpec Φ C (oldNums1 s d l bl0 sz0 m) ρ h w fun l ρ' h' w' => w' = w ∧ h'.hp = h.hp ∧ ∃ L : List Int, LIs ρ' l (L ++ N) ∧ OldIs C ρ' h' w d v elem s (cellsOf ks L) ∧ (d.len.den ρ.is).toNat * s = L.length ∧ cellsOf ks (L ++ N) = cellsOf ks L ++ cellsOf ks N := by
  refine MSpec.rep fun r0 => ?_
  have hbok := r0.fact.heap _ (blk_mem eb)
  have hin := hbok.inB
  have hh := hbok.holds
  simp only [Blk.inB, Bool.and_eq_true, decide_eq_true_eq] at hin
  simp only [Blk.holds] at hh
  unfold oldNums1
  refine (need_spec hd.len (AtIs.c ρ 0)).bind ?_
  rintro _ ρ1 h1 w1 l1 ⟨rfl, hp1, c1⟩
  refine (need_spec (hd.len.mono l1) (hd.cap.mono l1)).bind ?_
  rintro _ ρ2 h2 w2 l2 ⟨rfl, hp2, c2⟩
  have L2 := Env.le_trans l1 l2
  refine (need_spec (hd.cap.mono L2) (AtIs.c ρ2 _)).bind ?_
  rintro _ ρ3 h3 w3 l3 ⟨rfl, hp3, c3⟩
  have L3 := Env.le_trans L2 l3
  refine (mul_spec (hd.len.mono L3) (AtIs.c ρ3 s)).bind ?_
  rintro e1 ρ4 h4 w4 l4 ⟨rfl, hp4, he1⟩
  have L4 := Env.le_trans L3 l4
  refine (need_spec he1 (AtIs.mono ⟨hin.2.1, rfl⟩ L4)).bind ?_
  rintro _ ρ5 h5 w5 l5 ⟨rfl, hp5, c5⟩
  have L5 := Env.le_trans L4 l5
  refine (mul_spec (hd.cap.mono L5) (AtIs.c ρ5 s)).bind ?_
  rintro e2 ρ6 h6 w6 l6 ⟨rfl, hp6, he2⟩
  have L6 := Env.le_trans L5 l6
  refine (need_spec he2 (AtIs.mono ⟨hin.2.2, rfl⟩ L6)).bind ?_
  rintro _ ρ7 h7 w7 l7 ⟨rfl, hp7, c7⟩
  have L7 := Env.le_trans L6 l7
  simp only [cmpB, decide_eq_true_eq, beq_iff_eq] at c1 c2 c3 c5 c7
  obtain ⟨zl, hzl⟩ := Int.eq_ofNat_of_zero_le c1
  obtain ⟨zc, hzc⟩ := Int.eq_ofNat_of_zero_le (Int.le_trans c1 c2)
  have e1v : (d.len.den ρ.is * (s : Int)) = ((zl * s : Nat) : Int) := by rw [hzl]; exact (Int.natCast_mul zl s).symm
  have e2v : (d.cap.den ρ.is * (s : Int)) = ((zc * s : Nat) : Int) := by rw [hzc]; exact (Int.natCast_mul zc s).symm
  have hlen : zl * s ≤ (ρ.ls.getD l []).length := by rw [e1v, ← hh.1] at c5; exact_mod_cast c5
  have hll : LIs ρ7 l (ρ.ls.getD l []) := LIs.mono ⟨hin.1, rfl⟩ L7
  have ht : MSpec Φ C (if sameAt e1 bl0 then pure l else mkL (.take l e1) : M Nat) ρ7 h7 w7 fun l' ρ' h' w' => w' = w7 ∧ h'.hp = h7.hp ∧ LIs ρ' l' ((ρ.ls.getD l []).take (zl * s)) := by
    split
    · rename_i hsame
      have : e1 = bl0 := of_decide_eq_true hsame
      subst this
      refine MSpec.ret ⟨rfl, rfl, ?_⟩
      have e4 : ((ρ.ls.getD l []).length : Int) = ((zl * s : Nat) : Int) := by
        rw [hh.1, ← e1v, ← he1.val]
        exact (AtIs.mono ⟨hin.2.1, rfl⟩ L4).2.symm
      rw [List.take_of_length_le (by omega)]
      exact hll
    · refine (mkL_ok (okB_take hll.1 ((he1.mono (Env.le_trans l5 (Env.le_trans l6 l7))).1))).mono ?_
      rintro l' ρ' h' w' ll ⟨g1, g2, g3⟩
      refine ⟨g1, g2, ?_⟩
      simp only [LOp.den, hll.2, (he1.mono (Env.le_trans l5 (Env.le_trans l6 l7))).val, e1v, Int.toNat_natCast] at g3
      exact g3
  refine ht.bind ?_
  rintro la ρ8 h8 w8 l8 ⟨rfl, hp8, hla⟩
  have L8 := Env.le_trans L7 l8
  have hM8 := hN.mono L8
  refine (mkL_ok (okB_app hla.1 hM8.1)).mono ?_
  rintro lb ρ9 h9 w9 l9 ⟨rfl, hp9, hlb⟩
  have L9 := Env.le_trans L8 l9
  simp only [LOp.den, hla.2, hM8.2] at hlb
  have d1 : d.len.den ρ9.is = d.len.den ρ.is := (hd.len.mono L9).2
  have d2 : d.cap.den ρ9.is = d.cap.den ρ.is := (hd.cap.mono L9).2
  have hb9 : ρ9.b n = ρ.b n := by obtain ⟨τ, rfl⟩ := L9; exact Env.b_app hbok.lt
  have hsz9 : sz0.den ρ9.is = sz0.den ρ.is := (AtIs.mono ⟨hin.2.2, rfl⟩ L9).2
  have hsz : sz0.den ρ.is = ((zc * s : Nat) : Int) := by
    rw [← e2v]
    have : sz0.den ρ6.is = sz0.den ρ.is := (AtIs.mono ⟨hin.2.2, rfl⟩ L6).2
    rw [← this]
    first | exact c7.symm | (rw [this]; exact c7.symm)
  have hlenT : ((ρ.ls.getD l []).take (zl * s)).length = zl * s := by rw [List.length_take]; omega
  have hpos : d.cap.den ρ.is ≠ 0 → sz0.den ρ.is ≠ 0 := by
    intro h0
    rw [hsz]
    have : 0 < zc * s := Nat.mul_pos (by omega) hs
    omega
  refine ⟨rfl, by rw [hp9, hp8, hp7, hp6, hp5, hp4, hp3, hp2, hp1], _, hlb, ⟨?_, by rw [d1]; exact c1, ?_, ?_⟩, ?_, ?_⟩
  · rw [d1, hzl, Int.toNat_natCast]
    by_cases hz : d.cap.den ρ.is = 0
    · have hz0 : zl = 0 := by omega
      have hzc0 : zc = 0 := by omega
      subst hz0
      rcases hd.named hdn with ⟨hv, _⟩ | hv
      · left; exact ⟨hv, rfl, by simp [cellsOf]⟩
      · right; left
        exact ⟨⟨(ρ.b n).1, (ρ.b n).2, none⟩, by rw [hv, hzl, hz]; rfl, rfl, by simp [cellsOf]⟩
    · rcases hd.named hdn with ⟨_, hc0⟩ | hv
      · exact absurd hc0 hz
      · have hcell := hh.2.2 (hpos hz)
        rw [hv, hzl, hzc, Int.toNat_natCast, Int.toNat_natCast, hcell.1]
        have := hcell.2.whole (n := zl) (cap := zc) (s := s) (k := zl * s) rfl (by rw [cellsOf_len]; exact hlen) (by omega) (by omega) hsz
        rw [take_cells] at this
        exact this
  · intro m hm h0
    rw [hdn] at hm
    cases hm
    rw [d2] at h0
    refine ⟨_, (blk_of_hp (by rw [hp9, hp8, hp7, hp6, hp5, hp4, hp3, hp2, hp1]) n).trans eb, ?_⟩
    simp only [Blk.phys, hsz9, if_neg (hpos h0)]
    exact List.mem_singleton.2 rfl
  · intro m hm; rw [d2]; omega
  · rw [hzl, Int.toNat_natCast, hlenT]
  · refine cellsOf_app (.inr ?_)
    rw [hlenT, Nat.mul_mod, hmod, Nat.mul_zero, Nat.zero_mod]
theorem oldNums_spec {elem : TypeId} {s : Nat} (hs : 0 < s) {d : Dst} {v : Value} (hd : DstIs ρ d v) {q : List CK × Nat} {N : List Int} (hN : LIs ρ q.2 N) :
    MSpec Φ C (oldNums elem s d q) ρ h w fun l ρ' h' w' => w' = w ∧ h'.hp = h.hp ∧ ∃ L : List Int, LIs ρ' l (L ++ N) ∧ OldIs C ρ' h' w d v elem s (cellsOf q.1 L) ∧ (d.len.den ρ.is).toNat * s = L.length ∧ cellsOf q.1 (L ++ N) = cellsOf q.1 L ++ cellsOf q.1 N := by
  intro r k hk
  unfold oldNums at hk
  split at hk
  · rename_i hdn
    obtain ⟨hv, e1, e2⟩ := hd.unnamed hdn
    refine ⟨q.2, ρ, h, w, Env.le_refl ρ, r, hk, rfl, rfl, [], by simpa using hN, ⟨?_, by rw [e1]; exact Int.le_refl 0, (fun n hn => by rw [hdn] at hn; cases hn), (fun n hn => by rw [hdn] at hn; cases hn)⟩, by simp [e1], by simp [cellsOf]⟩
    rw [e1]
    exact .inl ⟨hv, rfl, by simp [cellsOf]⟩
  · rename_i n hdn
    split at hk
    · rename_i ks0 l bl0 sz0 el eb
      split at hk
      · rename_i hc
        obtain ⟨rfl, rfl, hmod⟩ := hc
        exact oldNums1_spec hs hd hdn eb hmod hN r k hk
      · exact hk.elim
    · exact hk.elim
theorem oldCells_spec {elem : TypeId} {s k : Nat} (hs : 0 < s) {d : Dst} {v : Value} (hd : DstIs ρ d v) (hk1 : k ≤ 1000000) :
    MSpec Φ C (oldCells elem s d k) ρ h w fun q ρ' h' w' => w' = w ∧ h'.hp = h.hp ∧ SV.oks ρ'.is.length ρ'.bs.length q.2 = true ∧ OldIs C ρ' h' w d v elem s (SV.dens ρ' q.2) ∧ (d.len.den ρ.is).toNat = q.1 ∧ q.1 + k ≤ 1000000 ∧ q.2.length = q.1 * s := by
  refine MSpec.rep fun r0 => ?_
  intro r kk hk
  unfold oldCells at hk
  split at hk
  · rename_i hdn
    obtain ⟨hv, e1, e2⟩ := hd.unnamed hdn
    refine ⟨(0, []), ρ, h, w, Env.le_refl ρ, r, hk, rfl, rfl, rfl, ⟨?_, by rw [e1]; exact Int.le_refl 0, (fun n hn => by rw [hdn] at hn; cases hn), (fun n hn => by rw [hdn] at hn; cases hn)⟩, by simp [e1], by omega, by simp⟩
    rw [e1]
    exact .inl ⟨hv, rfl, rfl⟩
  · rename_i n hdn
    split at hk
    · rename_i l0 xs sz0 el el0 eb
      split at hk
      · rename_i hc
        obtain ⟨rfl, h0, hle, hsm⟩ := hc
        have hbok := r0.fact.heap _ (blk_mem eb)
        have hin := hbok.inB
        have hh := hbok.holds
        simp only [Blk.inB, Bool.and_eq_true] at hin
        simp only [Blk.holds] at hh
        have hl0 := fixed_ok r0.fact el0
        have key : MSpec Φ C (oldCells1 s d l0 xs sz0) ρ h w fun q ρ' h' w' => w' = w ∧ h'.hp = h.hp ∧ SV.oks ρ'.is.length ρ'.bs.length q.2 = true ∧ OldIs C ρ' h' w d v el s (SV.dens ρ' q.2) ∧ (d.len.den ρ.is).toNat = q.1 ∧ q.1 + k ≤ 1000000 ∧ q.2.length = q.1 * s := by
          unfold oldCells1
          refine (need_spec (AtIs.c ρ l0) hd.cap).bind ?_
          rintro _ ρ1 h1 w1 l1 ⟨rfl, hp1, c1⟩
          refine (need_spec (hd.cap.mono l1) (AtIs.c ρ1 _)).bind ?_
          rintro _ ρ2 h2 w2 l2 ⟨rfl, hp2, c2⟩
          have L2 := Env.le_trans l1 l2
          refine (mul_spec (hd.cap.mono L2) (AtIs.c ρ2 s)).bind ?_
          rintro e2 ρ3 h3 w3 l3 ⟨rfl, hp3, he2⟩
          have L3 := Env.le_trans L2 l3
          refine (need_spec he2 (AtIs.mono ⟨hin.2, rfl⟩ L3)).bind ?_
          rintro _ ρ4 h4 w4 l4 ⟨rfl, hp4, c4⟩
          have L4 := Env.le_trans L3 l4
          simp only [cmpB, decide_eq_true_eq, beq_iff_eq] at c1 c2 c4
          obtain ⟨zl, hzl⟩ := Int.eq_ofNat_of_zero_le h0
          obtain ⟨zc, hzc⟩ := Int.eq_ofNat_of_zero_le (Int.le_trans h0 c1)
          have e2v : (d.cap.den ρ.is * (s : Int)) = ((zc * s : Nat) : Int) := by rw [hzc]; exact (Int.natCast_mul zc s).symm
          have hsz : sz0.den ρ.is = ((zc * s : Nat) : Int) := by
            rw [← e2v]
            exact c4.symm
          subst hzl
          simp only [Int.toNat_natCast] at hle hsm ⊢
          have d1 : d.len.den ρ4.is = d.len.den ρ.is := (hd.len.mono L4).2
          have d2 : d.cap.den ρ4.is = d.cap.den ρ.is := (hd.cap.mono L4).2
          have hokt : SV.oks ρ.is.length ρ.bs.length (xs.take (zl * s)) = true := by have := oks_part (ni := ρ.is.length) (nb := ρ.bs.length) 0 (zl * s) hin.1; simpa using this
          have hden : SV.dens ρ4 (xs.take (zl * s)) = (SV.dens ρ xs).take (zl * s) := by
            obtain ⟨τ, rfl⟩ := L4
            rw [SV.dens_app _ hokt]
            simp [SV.dens_eq, List.map_take]
          have hxl : zl * s ≤ (SV.dens ρ xs).length := by rw [SV.dens_eq]; simpa using hle
          refine MSpec.ret ⟨rfl, by rw [hp4, hp3, hp2, hp1], SV.oks_mono (Env.le_len L4).1 (Env.le_len L4).2.2 _ hokt, ⟨?_, by rw [d1, hl0]; omega, ?_, ?_⟩, by rw [hl0]; rfl, hsm, by rw [List.length_take]; exact Nat.min_eq_left hle⟩
          · simp only [hden, d1, hl0, Int.toNat_natCast]
            by_cases hz : d.cap.den ρ.is = 0
            · have hz0 : zl = 0 := by omega
              subst hz0
              rcases hd.named hdn with ⟨hv, _⟩ | hv
              · left; exact ⟨hv, rfl, by simp⟩
              · right; left
                exact ⟨⟨(ρ.b n).1, (ρ.b n).2, none⟩, by rw [hv, hl0, hz]; rfl, rfl, by simp⟩
            · rcases hd.named hdn with ⟨_, hc0⟩ | hv
              · exact absurd hc0 hz
              · rw [hv, hl0, hzc, Int.toNat_natCast, Int.toNat_natCast, hh.1]
                exact hh.2.whole (n := zl) (cap := zc) (s := s) (k := zl * s) rfl hxl (by omega) (by omega) hsz
          · intro m hm _
            rw [hdn] at hm
            cases hm
            exact ⟨_, (blk_of_hp (by rw [hp4, hp3, hp2, hp1]) n).trans eb, List.mem_singleton.2 rfl⟩
          · intro m hm; rw [d2]; omega
        exact key r kk hk
      · exact hk.elim
    · exact hk.elim
end
end Go.Sx
/- Appends are sound (3). -/
set_option linter.unusedVariables false
namespace Go.Sx
section
variable {Φ : Phi} {C : Ctx} {ρ : Env} {h : H} {w : World} {P : Program}

theorem OldIs.mono {ρ' : Env} {h' : H} {d : Dst} {v : Value} {e : TypeId} {s : Nat} {xs : List Value} (r : RepH C ρ h w) (hd : DstIs ρ d v) (l : ρ.le ρ') (hp : h'.hp = h.hp) (o : OldIs C ρ h w d v e s xs) : OldIs C ρ' h' w d v e s xs := by
  have d1 : d.len.den ρ'.is = d.len.den ρ.is := (hd.len.mono l).2
  have d2 : d.cap.den ρ'.is = d.cap.den ρ.is := (hd.cap.mono l).2
  refine ⟨by rw [d1]; exact o.whole, by rw [d1]; exact o.len, fun n hn h0 => ?_, fun n hn => by rw [d2]; exact o.cap n hn⟩
  rw [d2] at h0
  obtain ⟨b, eb, hb⟩ := o.old n hn h0
  have hok := r.fact.heap _ (blk_mem eb)
  refine ⟨b, (blk_of_hp hp n).trans eb, ?_⟩
  obtain ⟨τ, rfl⟩ := l
  rw [Env.b_app hok.lt, Blk.phys_app hok.lt hok.inB]
  exact hb
theorem natMul {z : Int} {s : Nat} (h : 0 ≤ z) : z * (s : Int) = ((z.toNat * s : Nat) : Int) := by
  obtain ⟨k, rfl⟩ := Int.eq_ofNat_of_zero_le h
  rw [Int.toNat_natCast]; exact (Int.natCast_mul k s).symm
theorem cellsOf_one {ks : List CK} {L : List Int} : ∀ u ∈ cellsOf ks L, u.oneCell' = true := by
  intro u hu
  obtain ⟨i, hi, rfl⟩ := List.getElem_of_mem hu
  simp [cellsOf, cellAt, CK.val_one]

/-- The new block stands, and the slice points to it. -/
theorem growTo_core {d : Dst} {v : Value} (hd : DstIs ρ d v) {e : TypeId} {s : Nat} {xs news : List Value} {w' : World} {g cap need : Nat} (G : Grown w w' e s v g cap need (xs ++ news)) (hO : OldIs C ρ h w d v e s xs)
    {na ca : At} (hn : AtIs ρ na need) (hc : AtIs ρ ca cap)
    {b : Blk} (hph : b.phys (ρ.app ⟨[], [], [(g, 0)]⟩) h.nb = [g]) (hin : b.inB ρ.is.length ρ.ls.length ρ.bs.length = true) (hb : b.holds C (ρ.app ⟨[], [], [(g, 0)]⟩) w' h.nb) :
    MSpec Φ C (fun h kk => growTo d (.slc h.nb (.c 0) na ca) b h kk) ρ h w fun sv ρ' _ w'' => w'' = w' ∧ SvIs ρ' sv (.slice (some ⟨g, 0, none⟩) need cap) := by
  intro r k hk
  have hk' : Tree.den Φ (k (.slc h.nb (.c 0) na ca) { h.swap d.name.toList [(h.nb, b)] with nb := h.nb + 1 }) ρ.is ρ.ls := hk
  refine ⟨.slc h.nb (.c 0) na ca, ρ.app ⟨[], [], [(g, 0)]⟩, { h.swap d.name.toList [(h.nb, b)] with nb := h.nb + 1 }, w', Env.le_app _ _, growTo_rep r hd G hO.old hO.cap hph hin hb, ?_, rfl, ?_⟩
  · simpa [Env.app] using hk'
  · have := slc_out (g := g) r.nb hn hc
    simpa using this
theorem growTo_spec {d : Dst} {v u : Value} (hd : DstIs ρ d v) {t e : TypeId} {s : Nat} {xs news : List Value} {w' : World} {g cap need : Nat} (G : Grown w w' e s v g cap need (xs ++ news)) (hO : OldIs C ρ h w d v e s xs)
    (hr : ∀ ty, (Builtin.append_ #[t, t] ty #[v, u]).run P w = .ok (.slice (some ⟨g, 0, none⟩) need cap) w') {na ca : At} (hn : AtIs ρ na need) (hc : AtIs ρ ca cap)
    {b : Blk} (hph : b.phys (ρ.app ⟨[], [], [(g, 0)]⟩) h.nb = [g]) (hin : b.inB ρ.is.length ρ.ls.length ρ.bs.length = true) (hb : b.holds C (ρ.app ⟨[], [], [(g, 0)]⟩) w' h.nb) :
    MSpec Φ C (fun h kk => growTo d (.slc h.nb (.c 0) na ca) b h kk) ρ h w (AppDoes P t v u w) :=
  (growTo_core hd G hO hn hc hph hin hb).mono (by
    rintro sv ρ' h' w'' l ⟨rfl, hs⟩
    exact ⟨_, hs, hr⟩)

theorem appNums_spec {t elem : TypeId} {s : Nat} {inf : TypeInfo} {z : Value} (ht : P.underlying t = some (.slice elem)) (hi : P.info? elem = some inf) (hz : inf.zero = some z) (hzs : z.cells.size = inf.size) (hsz : inf.size = s) (hb : inf.bytes ≤ 1000) (hs : 0 < s)
    {d : Dst} {v : Value} (hd : DstIs ρ d v) {m : Nat} {p k : At} {zp zk : Int} {c : Nat} (hm : m < ρ.bs.length) (hp : AtIs ρ p zp) (hk : AtIs ρ k zk) (hk0 : 0 < zk) :
    MSpec Φ C (appNums elem s d m p k) ρ h w (AppDoes P t v (.slice (some (ρ.at m p)) zk.toNat c) w) := by
  unfold appNums
  refine (add_spec hd.len hk).bind ?_
  rintro na ρ1 h1 w1 l1 ⟨rfl, hp1, hna⟩
  refine (need_spec hna (AtIs.c ρ1 1000000)).bind ?_
  rintro _ ρ2 h2 w2 l2 ⟨rfl, hp2, c2⟩
  simp only [cmpB, decide_eq_true_eq] at c2
  have L2 := Env.le_trans l1 l2
  refine (mul_spec (hk.mono L2) (AtIs.c ρ2 s)).bind ?_
  rintro ksa ρ3 h3 w3 l3 ⟨rfl, hp3, hksa⟩
  have L3 := Env.le_trans L2 l3
  refine (rdList_spec (Nat.lt_of_lt_of_le hm (Env.le_len L3).2.2) (hp.mono L3) hksa).bind ?_
  rintro q ρ4 h4 w4 l4 ⟨rfl, hp4, z0, z1, N, hN, hNl, hcells⟩
  have L4 := Env.le_trans L3 l4
  refine (oldNums_spec hs (hd.mono L4) hN).bind ?_
  rintro l ρ5 h5 w5 l5 ⟨rfl, hp5, L, hL, hO, hLl, happ⟩
  have L5 := Env.le_trans L4 l5
  rw [at_mono L3 hm hp] at hcells
  have d5 : d.len.den ρ5.is = d.len.den ρ.is := (hd.len.mono L5).2
  have d4 : d.len.den ρ4.is = d.len.den ρ.is := (hd.len.mono L4).2
  have hNl' : N.length = zk.toNat * s := by rw [natMul (by omega)] at hNl; exact_mod_cast hNl
  have hlen0 : 0 ≤ d.len.den ρ.is := by rw [← d5]; exact hO.len
  have hwhole := hO.whole
  rw [d5] at hwhole
  refine MSpec.rep fun r5 => ?_
  have nlen : ((d.len.den ρ.is).toNat + zk.toNat : Nat) = (d.len.den ρ.is + zk).toNat := by omega
  obtain ⟨g, cap, w', hr, G⟩ := append_whole (P := P) (ty := 0) (t := t) ht hi hz hzs (hsz ▸ hwhole) (a := ρ.at m p) (m := zk.toNat) (c := c) (news := cellsOf q.1 N) (by rw [cellsOf_len, hNl', hsz])
    hcells cellsOf_one (by omega) (by omega) hb
  have hr' : ∀ ty, (Builtin.append_ #[t, t] ty #[v, .slice (some (ρ.at m p)) zk.toNat c]).run P w5 = .ok (.slice (some ⟨g, 0, none⟩) ((d.len.den ρ.is).toNat + zk.toNat) cap) w' := fun ty => hr
  rw [hsz] at G
  have hna5 := hna.mono (Env.le_trans l2 (Env.le_trans l3 (Env.le_trans l4 l5)))
  have hge := G.ge
  have hle := G.le
  refine (anyI_spec (x := (cap : Int)) hna5 (AtIs.c ρ5 _) (by omega) (by omega)).bind ?_
  rintro ca ρ6 h6 w6 l6 ⟨rfl, hp6, hca⟩
  refine (mul_spec (hna5.mono l6) (AtIs.c ρ6 s)).bind ?_
  rintro bl ρ7 h7 w7 l7 ⟨rfl, hp7, hbl⟩
  refine (mul_spec (hca.mono l7) (AtIs.c ρ7 s)).bind ?_
  rintro sz ρ8 h8 w8 l8 ⟨rfl, hp8, hsza⟩
  have L8 := Env.le_trans l6 (Env.le_trans l7 l8)
  have LL8 := Env.le_trans L5 L8
  have hbl8 := hbl.mono l8
  have hL8 := hL.mono L8
  have hO8 := hO.mono r5 (hd.mono L5) L8 (by rw [hp8, hp7, hp6])
  have hna8 : AtIs ρ8 na (((d.len.den ρ.is).toNat + zk.toNat : Nat) : Int) := by
    have := hna5.mono L8
    have e : ((d.len.den ρ.is).toNat + zk.toNat : Nat) = (d.len.den ρ.is + zk) := by omega
    rw [e]; exact this
  have hca8 := hca.mono (Env.le_trans l7 l8)
  have le8 := Env.le_app ρ8 ⟨[], [], [(g, 0)]⟩
  have hszv : sz.den (ρ8.app ⟨[], [], [(g, 0)]⟩).is = ((cap * s : Nat) : Int) := by rw [(hsza.mono le8).2]; exact (Int.natCast_mul cap s).symm
  have hcap0 : 0 < cap * s := Nat.mul_pos (by omega) hs
  refine MSpec.rep fun r8 => ?_
  have hbat : (ρ8.app ⟨[], [], [(g, 0)]⟩).b h8.nb = (g, 0) := by rw [← r8.nb]; exact pushB_at ρ8 g
  refine growTo_spec (hd.mono LL8) G hO8 hr' hna8 hca8 (b := .arr q.1 l bl sz elem) ?_ ?_ ?_
  · simp only [Blk.phys, hszv, hbat]
    rw [if_neg (by omega)]
  · simp only [Blk.inB, Bool.and_eq_true, decide_eq_true_eq]
    exact ⟨hL8.1, hbl8.1, hsza.1⟩
  · simp only [Blk.holds, hszv, hbat]
    have hLv : (ρ8.app ⟨[], [], [(g, 0)]⟩).ls.getD l [] = L ++ N := (hL8.mono le8).2
    rw [hLv, (hbl8.mono le8).2]
    refine ⟨?_, fun h0 => by omega, fun _ => ⟨by simp, ?_⟩⟩
    · rw [natMul (by omega), ← nlen, Nat.add_mul, List.length_append, hNl', ← hLl, d4]
    · obtain ⟨rest, h1, h2⟩ := G.cells
      rw [happ]
      exact ⟨rest, h1, by rw [h2]⟩

theorem appCells_spec {t elem : TypeId} {s : Nat} {inf : TypeInfo} {z : Value} (ht : P.underlying t = some (.slice elem)) (hi : P.info? elem = some inf) (hz : inf.zero = some z) (hzs : z.cells.size = inf.size) (hsz : inf.size = s) (hb : inf.bytes ≤ 1000) (hs : 0 < s)
    {d : Dst} {v : Value} (hd : DstIs ρ d v) {m k : Nat} {p : At} {zp : Int} {c : Nat} (hm : m < ρ.bs.length) (hp : AtIs ρ p zp) (hk0 : 0 < k) (hk1 : k ≤ 1000000) :
    MSpec Φ C (appCells elem s d m p k) ρ h w (AppDoes P t v (.slice (some (ρ.at m p)) k c) w) := by
  unfold appCells
  refine (need_spec hp (AtIs.c ρ 0)).bind ?_
  rintro _ ρ1 h1 w1 l1 ⟨rfl, hp1, c1⟩
  simp only [cmpB, decide_eq_true_eq] at c1
  refine (rdCells_spec (Nat.lt_of_lt_of_le hm (Env.le_len l1).2.2) (hp.mono l1) c1 0 (k * s)).bind ?_
  rintro ys ρ2 h2 w2 l2 ⟨rfl, hp2, hys, hysl, hcells⟩
  have L2 := Env.le_trans l1 l2
  have chk : MSpec Φ C (chkOne ys) ρ2 h2 w2 fun _ ρ' h' w' => w' = w2 ∧ h'.hp = h2.hp ∧ ρ' = ρ2 ∧ ys.all SV.one = true := by
    unfold chkOne
    split
    · rename_i hc; exact MSpec.ret ⟨rfl, rfl, rfl, hc⟩
    · exact MSpec.no
  refine chk.bind ?_
  rintro _ ρ2' h2' w2' l2' ⟨e1, hp2', e2, hall⟩
  have e1' := e1.symm
  have e2' := e2.symm
  subst e1'
  subst e2'
  refine (oldCells_spec hs (hd.mono L2) hk1).bind ?_
  rintro q ρ3 h3 w3 l3 ⟨rfl, hp3, hqok, hO, hq1, hqk, hql⟩
  have L3 := Env.le_trans L2 l3
  rw [at_mono l1 hm hp] at hcells
  have d3 : d.len.den ρ3.is = d.len.den ρ.is := (hd.len.mono L3).2
  have d2 : d.len.den ρ2.is = d.len.den ρ.is := (hd.len.mono L2).2
  have hwhole := hO.whole
  rw [d3, ← d2, hq1] at hwhole
  refine MSpec.rep fun r3 => ?_
  have hys3 : SV.oks ρ3.is.length ρ3.bs.length ys = true := SV.oks_mono (Env.le_len l3).1 (Env.le_len l3).2.2 _ hys
  have hdys : SV.dens ρ3 ys = SV.dens ρ2 ys := by obtain ⟨τ, rfl⟩ := l3; exact SV.dens_app ys hys
  have hone : ∀ u ∈ SV.dens ρ2 ys, u.oneCell' = true := by
    intro u hu
    rw [SV.dens_eq] at hu
    obtain ⟨y, hy, rfl⟩ := List.mem_map.1 hu
    exact SV.one_den (List.all_eq_true.1 hall y hy)
  obtain ⟨g, cap, w', hr, G⟩ := append_whole (P := P) (ty := 0) (t := t) ht hi hz hzs (hsz ▸ hwhole) (a := ρ.at m p) (m := k) (c := c) (news := SV.dens ρ2 ys) (by rw [SV.dens_eq, List.length_map, hysl, hsz])
    (fun j u hj => by have := hcells j u hj; rw [Nat.zero_add] at this; exact this) hone hk0 hqk hb
  have hr' : ∀ ty, (Builtin.append_ #[t, t] ty #[v, .slice (some (ρ.at m p)) k c]).run P w3 = .ok (.slice (some ⟨g, 0, none⟩) (q.1 + k) cap) w' := fun ty => hr
  rw [hsz] at G
  have hge := G.ge
  have hle := G.le
  refine (anyI_spec (x := (cap : Int)) (AtIs.c ρ3 ((q.1 + k : Nat) : Int)) (AtIs.c ρ3 _) (by omega) (by omega)).bind ?_
  rintro ca ρ4 h4 w4 l4 ⟨rfl, hp4, hca⟩
  refine (mul_spec hca (AtIs.c ρ4 s)).bind ?_
  rintro sz ρ5 h5 w5 l5 ⟨rfl, hp5, hsza⟩
  have L5 := Env.le_trans l4 l5
  have LL5 := Env.le_trans L3 L5
  have hO5 := hO.mono r3 (hd.mono L3) L5 (by rw [hp5, hp4])
  have le5 := Env.le_app ρ5 ⟨[], [], [(g, 0)]⟩
  have hszv : sz.den (ρ5.app ⟨[], [], [(g, 0)]⟩).is = ((cap * s : Nat) : Int) := by rw [(hsza.mono le5).2]; exact (Int.natCast_mul cap s).symm
  refine MSpec.rep fun r5 => ?_
  have hbat : (ρ5.app ⟨[], [], [(g, 0)]⟩).b h5.nb = (g, 0) := by rw [← r5.nb]; exact pushB_at ρ5 g
  have hqok5 := SV.oks_mono (Env.le_len L5).1 (Env.le_len L5).2.2 _ hqok
  have hys5 := SV.oks_mono (Env.le_len L5).1 (Env.le_len L5).2.2 _ hys3
  refine growTo_spec (hd.mono LL5) G hO5 hr' (AtIs.c ρ5 ((q.1 + k : Nat) : Int)) (hca.mono l5) (b := .cells (q.2 ++ ys) sz elem) ?_ ?_ ?_
  · simp only [Blk.phys, hbat]
  · simp only [Blk.inB, Bool.and_eq_true]
    exact ⟨oks_append hqok5 hys5, hsza.1⟩
  · simp only [Blk.holds, hszv, hbat]
    refine ⟨by simp, ?_⟩
    obtain ⟨rest, h1, h2⟩ := G.cells
    have e : SV.dens (ρ5.app ⟨[], [], [(g, 0)]⟩) (q.2 ++ ys) = SV.dens ρ3 q.2 ++ SV.dens ρ2 ys := by
      obtain ⟨τ, rfl⟩ := L5
      rw [SV.dens_app _ (oks_append hqok5 hys5), SV.dens_app _ (oks_append hqok hys3), dens_append, hdys]
    rw [e]
    exact ⟨rest, h1, by rw [h2]⟩

/-- Reshaping leaves the world as it is. -/
theorem toArr_w {n : Nat} : MSpec Φ C (toArr n) ρ h w fun _ ρ' h' w' => w' = w := toArr_spec.mono fun _ _ _ _ _ hh => hh.1
theorem appGo_spec {t elem : TypeId} {s : Nat} {inf : TypeInfo} {z : Value} (ht : P.underlying t = some (.slice elem)) (hi : P.info? elem = some inf) (hz : inf.zero = some z) (hzs : z.cells.size = inf.size) (hsz : inf.size = s) (hb : inf.bytes ≤ 1000) (hs : 0 < s)
    {d : Dst} {v : Value} (hd : DstIs ρ d v) {m : Nat} {p k : At} {zp zk : Int} {c : Nat} (hm : m < ρ.bs.length) (hp : AtIs ρ p zp) (hk : AtIs ρ k zk) (hk0 : 0 < zk) :
    MSpec Φ C (appGo elem s d m p k) ρ h w (AppDoes P t v (.slice (some (ρ.at m p)) zk.toNat c) w) := by
  have nums : MSpec Φ C (do
      toArr m
      (match d.name with | some n => toArr n | none => pure ())
      appNums elem s d m p k : M SV) ρ h w (AppDoes P t v (.slice (some (ρ.at m p)) zk.toNat c) w) := by
    refine toArr_w.bind ?_
    rintro _ ρ1 h1 w1 l1 rfl
    have second : MSpec Φ C (match d.name with | some n => toArr n | none => pure ()) ρ1 h1 w1 fun _ ρ' h' w' => w' = w1 := by
      split
      · exact toArr_w
      · exact MSpec.ret rfl
    refine second.bind ?_
    rintro _ ρ2 h2 w2 l2 rfl
    have L2 := Env.le_trans l1 l2
    have := appNums_spec (Φ := Φ) (C := C) (h := h2) (w := w2) (c := c) ht hi hz hzs hsz hb hs (hd.mono L2) (Nat.lt_of_lt_of_le hm (Env.le_len L2).2.2) (hp.mono L2) (hk.mono L2) hk0
    rw [at_mono L2 hm hp] at this
    exact this
  refine MSpec.rep fun r0 => ?_
  intro r kk hd'
  unfold appGo at hd'
  split at hd'
  · rename_i k0 ek
    have hk0' := fixed_ok r0.fact ek
    rw [hk.val] at hk0'
    split at hd'
    · rename_i hc
      simp only [Bool.and_eq_true, decide_eq_true_eq] at hc
      have := appCells_spec (Φ := Φ) (C := C) (h := h) (w := w) (c := c) ht hi hz hzs hsz hb hs hd (k := k0.toNat) hm hp (by omega) (by omega)
      rw [← hk0'] at this hd'
      exact this r kk hd'
    · exact nums r kk hd'
  · exact nums r kk hd'
theorem appMain_spec {t elem : TypeId} {s : Nat} {inf : TypeInfo} {z : Value} (ht : P.underlying t = some (.slice elem)) (hi : P.info? elem = some inf) (hz : inf.zero = some z) (hzs : z.cells.size = inf.size) (hsz : inf.size = s) (hb : inf.bytes ≤ 1000) (hs : 0 < s)
    {x : SV} {d : Dst} {v : Value} (hx : SvIs ρ x v) (hd : DstIs ρ d v) {m : Nat} {p k : At} {zp zk : Int} {c : Nat} (hm : m < ρ.bs.length) (hp : AtIs ρ p zp) (hk : AtIs ρ k zk) :
    MSpec Φ C (appMain elem s x d m p k) ρ h w (AppDoes P t v (.slice (some (ρ.at m p)) zk.toNat c) w) := by
  unfold appMain
  refine (need_spec hk (AtIs.c ρ 0)).bind ?_
  rintro _ ρ1 h1 w1 l1 ⟨rfl, hp1, c1⟩
  simp only [cmpB, decide_eq_true_eq] at c1
  refine (cmp_spec (op := .eql) (hk.mono l1) (AtIs.c ρ1 0)).bind ?_
  rintro e ρ2 h2 w2 l2 ⟨rfl, hp2, he⟩
  refine (dec_spec he).bind ?_
  rintro b ρ3 h3 w3 l3 ⟨rfl, hp3, hbb⟩
  have L3 := Env.le_trans l1 (Env.le_trans l2 l3)
  have hbe : (zk == 0) = b := by rw [← hbb]; cases hq : (zk == 0) <;> simp [cmpB, b2i, hq]
  cases b with
  | true =>
    simp only [if_true]
    have hk0 : zk = 0 := by simpa using hbe
    subst hk0
    refine (need_spec (hd.len.mono L3) (hd.cap.mono L3)).bind ?_
    rintro _ ρ4 h4 w4 l4 ⟨rfl, hp4, c4⟩
    simp only [cmpB, decide_eq_true_eq] at c4
    refine MSpec.ret ⟨v, hx.mono (Env.le_trans L3 l4), fun ty => ?_⟩
    rcases hd.val with ⟨rfl, _⟩ | ⟨n, hn, rfl⟩
    · exact append_none ht hi (Nat.le_refl 0)
    · exact append_none ht hi (by omega)
  | false =>
    simp only [Bool.false_eq_true, if_false]
    have hk0 : zk ≠ 0 := by simpa using hbe
    have := appGo_spec (Φ := Φ) (C := C) (h := h3) (w := w3) (c := c) ht hi hz hzs hsz hb hs (hd.mono L3) (Nat.lt_of_lt_of_le hm (Env.le_len L3).2.2) (hp.mono L3) (hk.mono L3) (by omega)
    rw [at_mono L3 hm hp] at this
    exact this

theorem append2_spec {t t' : TypeId} {x y : SV} {v u : Value} (hx : SvIs ρ x v) (hy : SvIs ρ y u) :
    MSpec Φ C (append2 P t t' x y) ρ h w fun sv ρ' _ w' => ∃ z, SvIs ρ' sv z ∧ ∀ ty, (Builtin.append_ #[t, t'] ty #[v, u]).run P w = .ok z w' := by
  refine MSpec.rep fun r0 => ?_
  intro r kk hk
  unfold append2 at hk
  split at hk
  · rename_i elem ht
    split at hk
    · rename_i s zs inf es ez ei
      split at hk
      · rename_i hc
        obtain ⟨rfl, hs, hzl, hb⟩ := hc
        obtain ⟨hsz, z, hz, hzs⟩ := elemInfo es ez ei hzl
        split at hk
        · rename_i d m p k c ed
          have hd := dst_is r0.fact hx ed
          obtain ⟨hm, hp, hkk, _, rfl⟩ := hy.slc
          exact appMain_spec ht ei hz hzs hsz hb hs hx hd hm hp hkk r kk hk
        · rename_i d m k c ed
          have hd := dst_is r0.fact hx ed
          obtain ⟨hm, hkk, hc, rfl⟩ := hy.vec
          have key : MSpec Φ C (do
            let e ← mkI (.cmp .eql c (.c 0))
            let b ← dec e
            if b then (do need .leq d.len d.cap; pure x) else appMain elem s x d m (.c 0) k : M SV) ρ h w (AppDoes P t v (if c.den ρ.is = 0 then .slice none 0 0 else .slice (some ⟨(ρ.b m).1, (ρ.b m).2, none⟩) (k.den ρ.is).toNat (c.den ρ.is).toNat) w) := by
            refine (cmp_spec (op := .eql) hc (AtIs.c ρ 0)).bind ?_
            rintro e ρ1 h1 w1 l1 ⟨rfl, hp1, he⟩
            refine (dec_spec he).bind ?_
            rintro b ρ2 h2 w2 l2 ⟨rfl, hp2, hbb⟩
            have L2 := Env.le_trans l1 l2
            have hbe : (c.den ρ.is == 0) = b := by rw [← hbb]; cases hq : (c.den ρ.is == 0) <;> simp [cmpB, b2i, hq]
            cases b with
            | true =>
              simp only [if_true]
              have hk0 : c.den ρ.is = 0 := by simpa using hbe
              refine (need_spec (hd.len.mono L2) (hd.cap.mono L2)).bind ?_
              rintro _ ρ4 h4 w4 l4 ⟨rfl, hp4, c4⟩
              simp only [cmpB, decide_eq_true_eq] at c4
              refine MSpec.ret ⟨v, hx.mono (Env.le_trans L2 l4), fun ty => ?_⟩
              rw [if_pos hk0]
              rcases hd.val with ⟨rfl, _⟩ | ⟨n, hn, rfl⟩
              · exact append_none ht ei (Nat.le_refl 0)
              · exact append_none ht ei (by omega)
            | false =>
              simp only [Bool.false_eq_true, if_false]
              have hk0 : ¬ c.den ρ.is = 0 := by simpa using hbe
              have := appMain_spec (Φ := Φ) (C := C) (h := h2) (w := w2) (c := (c.den ρ.is).toNat) ht ei hz hzs hsz hb hs (hx.mono L2) (hd.mono L2) (Nat.lt_of_lt_of_le hm (Env.le_len L2).2.2) (AtIs.c ρ2 0) (hkk.mono L2)
              rw [if_neg hk0]
              have e2 : ρ2.at m (.c 0) = ⟨(ρ.b m).1, (ρ.b m).2, none⟩ := by
                obtain ⟨τ, rfl⟩ := L2
                simp [Env.at, Env.b_app hm]
              rw [e2] at this
              exact this
          exact key r kk hk
        · rename_i d ed
          have hd := dst_is r0.fact hx ed
          obtain rfl := hy.nils
          have key : MSpec Φ C (do need .leq d.len d.cap; pure x : M SV) ρ h w (AppDoes P t v (.slice none 0 0) w) := by
            refine (need_spec hd.len hd.cap).bind ?_
            rintro _ ρ4 h4 w4 l4 ⟨rfl, hp4, c4⟩
            simp only [cmpB, decide_eq_true_eq] at c4
            refine MSpec.ret ⟨v, hx.mono l4, fun ty => ?_⟩
            rcases hd.val with ⟨rfl, _⟩ | ⟨n, hn, rfl⟩
            · exact append_none ht ei (Nat.le_refl 0)
            · exact append_none ht ei (by omega)
          exact key r kk hk
        · exact hk.elim
      · exact hk.elim
    · exact hk.elim
  · exact hk.elim
end
end Go.Sx
/- Copying and clearing stretches. -/
set_option linter.unusedVariables false
namespace Go.Sx

def lenOfS : SV → Option At
  | .nils => some (.c 0)
  | .slc _ _ l _ => some l
  | _ => none
/-- New numbers over old ones, from a place on. -/
def putNums (n : Nat) (o : At) (q : List CK × Nat) (c : At) : M Unit := fun h k =>
  match h.blk n with
  | some (.arr ks l bl sz el) => if ks = q.1 ∧ (ks.length = 1 ∨ residue h ks.length 5 o = some 0) then (do
      need .geq o (.c 0)
      need .geq c (.c 0)
      let e ← mkI (.add o c)
      need .leq e bl
      let l' ← mkL (.put l o q.2)
      fun h k => k () (h.setBlk n (.arr ks l' bl sz el)) : M Unit) h k else .fail 430
  | _ => .fail 431
/-- New cells over old ones, the place known. -/
def putCells (n : Nat) (o : At) (ys : List SV) : M Unit := fun h k =>
  match h.fixed o, h.blk n with
  | some j, some (.cells xs sz el) => if 0 ≤ j ∧ j.toNat + ys.length ≤ xs.length ∧ ys.all SV.one then k () (h.setBlk n (.cells (putAll xs j.toNat ys) sz el)) else .fail 432
  | _, _ => .fail 433
def isCells (h : H) (n : Nat) : Bool := match h.blk n with | some (.cells _ _ _) => true | _ => false
/-- 'copy', both slices with a place. -/
def copyGo (s : Nat) (n : Nat) (o dl : At) (m : Nat) (p sl : At) : M SV := do
  need .geq dl (.c 0)
  need .geq sl (.c 0)
  let c ← mkI (.mn sl dl)
  let cs ← mkI (.mul c (.c s))
  (fun h k => match h.fixed c with
    | some c0 => if isCells h n && decide (0 ≤ c0 ∧ c0 ≤ 1000000) then (do
        need .geq p (.c 0)
        let ys ← rdCells m p 0 (c0.toNat * s)
        putCells n o ys : M Unit) h k
      else (do
        toArr m
        toArr n
        let q ← rdList m p cs
        putNums n o q cs : M Unit) h k
    | none => (do
        toArr m
        toArr n
        let q ← rdList m p cs
        putNums n o q cs : M Unit) h k : M Unit)
  pure (.i .i64 c)
def copyM (P : Program) (t : TypeId) (x y : SV) : M SV := fun h k =>
  match P.underlying t with
  | some (.slice elem) => (match sizeT P elem, x, y with
    | some s, .slc n o dl _, .slc m p sl _ => copyGo s n o dl m p sl h k
    | some _, .slc _ _ _ _, .nils => k (.i .i64 (.c 0)) h
    | some _, .nils, .nils => k (.i .i64 (.c 0)) h
    | some _, .nils, .slc _ _ _ _ => k (.i .i64 (.c 0)) h
    | _, _, _ => .fail 435)
  | _ => .fail 436
/-- 'clear' of a slice. -/
def clearM (P : Program) (t : TypeId) (x : SV) : M SV := fun h k =>
  match P.underlying t, x with
  | some (.slice _), .nils => k (.tup []) h
  | some (.slice elem), .slc n o l _ => (match sizeT P elem, zeroCellsT P elem with
    | some s, some zs => if zs.length = s ∧ 0 < s then (match h.fixed l with
      | some l0 => if isCells h n && decide (0 < l0 ∧ l0 ≤ 1000000) then (do putCells n o (repeatZ zs l0.toNat); pure (.tup []) : M SV) h k else if decide (0 < l0 ∧ l0 ≤ 64) then (do need .geq o (.c 0); wrCells n o 0 (repeatZ zs l0.toNat); pure (.tup []) : M SV) h k else .fail 437
      | none => .fail 438) else .fail 439
    | _, _ => .fail 440)
  | _, _ => .fail 441

section
variable {Φ : Phi} {C : Ctx} {ρ : Env} {h : H} {w : World} {P : Program}
/-- Storing a stretch. -/
theorem store_row {p o : Nat} {vs news : List Value} {sz : Int} {el : TypeId} (hc : HasCells w p vs sz el) (hfit : o + news.length ≤ vs.length) (h1 : ∀ v ∈ news, v.oneCell' = true) :
    ∃ w', (storeCells ⟨p, o, none⟩ news).run P w = .ok () w' ∧ HasCells w' p (vs.take o ++ news ++ vs.drop (o + news.length)) sz el ∧ w'.heap.size = w.heap.size ∧ (∀ q, q ≠ p → w'.heap[q]? = w.heap[q]?) ∧ w'.os = w.os ∧ w'.output = w.output := by
  obtain ⟨rest, hr, hs⟩ := hc
  have hst := run_storeCells_at P p o el news 0 _ w hr (by simp; omega) h1
  simp only [Nat.add_zero] at hst
  refine ⟨_, hst, ⟨rest, ?_, ?_⟩, by simp, fun q hq => setRow_other w p q _ hq, rfl, rfl⟩
  · rw [setRow_heap w p _ _ el (0, 0) hr]
    congr 2
    simp only [List.append_assoc]
    rw [List.take_append_of_le_length (by omega), List.drop_append_of_le_length (by omega)]
  · simp only [List.length_append, List.length_take, List.length_drop]
    rw [← hs]
    congr 1
    omega
/-- The stretch is stored. -/
def Put (P : Program) (w : World) (a : Addr) (news : List Value) : Unit → Env → H → World → Prop := fun _ _ _ w' => (storeCells a news).run P w = .ok () w'

theorem putAll_den {ρ : Env} : ∀ (ys : List SV) (xs : List SV) (o : Nat), o + ys.length ≤ xs.length → SV.dens ρ (putAll xs o ys) = (SV.dens ρ xs).take o ++ SV.dens ρ ys ++ (SV.dens ρ xs).drop (o + ys.length)
  | [], xs, o, h => by simp [putAll, SV.dens]
  | y :: ys, xs, o, h => by
    simp only [List.length_cons] at h
    rw [putAll, putAll_den ys (xs.set o y) (o + 1) (by rw [List.length_set]; omega), dens_set]
    have := list_seg_step (SV.dens ρ xs) o (SV.den ρ y) (SV.dens ρ ys) (by rw [SV.dens_eq, SV.dens_eq, List.length_map, List.length_map]; omega)
    have hl : (SV.dens ρ ys).length = ys.length := by rw [SV.dens_eq, List.length_map]
    rw [hl] at this
    simp only [SV.dens, List.length_cons]
    rw [← this]

theorem putCells_spec {n : Nat} {o : At} {z : Int} {ys : List SV} (hn : n < ρ.bs.length) (ho : AtIs ρ o z) (hy : SV.oks ρ.is.length ρ.bs.length ys = true) :
    MSpec Φ C (putCells n o ys) ρ h w (Put P w (ρ.at n o) (SV.dens ρ ys)) := by
  refine MSpec.rep fun r0 => ?_
  intro r k hk
  unfold putCells at hk
  split at hk
  · rename_i j xs sz el ej eb
    split at hk
    · rename_i hc
      obtain ⟨h0, hle, hone⟩ := hc
      have hj := fixed_ok r0.fact ej
      rw [ho.val] at hj
      subst hj
      have hb := r0.fact.heap _ (blk_mem eb)
      have hin := hb.inB
      have hh := hb.holds
      simp only [Blk.inB, Bool.and_eq_true] at hin
      simp only [Blk.holds] at hh
      have hyl : (SV.dens ρ ys).length = ys.length := by rw [SV.dens_eq, List.length_map]
      have hxl : (SV.dens ρ xs).length = xs.length := by rw [SV.dens_eq, List.length_map]
      obtain ⟨w', hr, hcells, hsz, hoth, hos, hout⟩ := store_row (P := P) (o := z.toNat) (news := SV.dens ρ ys) hh.2 (by rw [hyl, hxl]; exact hle) (by
        intro v hv
        rw [SV.dens_eq] at hv
        obtain ⟨y, hy, rfl⟩ := List.mem_map.1 hv
        exact SV.one_den (List.all_eq_true.1 hone y hy))
      refine ⟨(), ρ, _, w', Env.le_refl ρ, ?_, hk, ?_⟩
      · refine r.setBlk eb rfl hsz (fun q hq => hoth q (by simpa [Blk.phys] using hq)) hos hout ?_ ?_
        · simp only [Blk.inB, Bool.and_eq_true]
          exact ⟨(putAll_is ys xs z.toNat hin.1 hy).1, hin.2⟩
        · refine ⟨hh.1, ?_⟩
          rw [putAll_den ys xs z.toNat hle, ← hyl]
          exact hcells
      · have hat : ρ.at n o = ⟨(ρ.b n).1, z.toNat, none⟩ := by simp [Env.at, hh.1, ho.val]
        rw [hat]; exact hr
    · exact hk.elim
  · exact hk.elim

theorem cellsOf_put {ks : List CK} {L N : List Int} {o : Nat} (h : ks.length = 1 ∨ o % ks.length = 0) (hfit : o + N.length ≤ L.length) :
    cellsOf ks (putL L o N) = (cellsOf ks L).take o ++ cellsOf ks N ++ (cellsOf ks L).drop (o + N.length) := by
  apply List.ext_getElem?
  intro i
  unfold putL
  have hmod : ∀ j, cellAt ks (o + j) = cellAt ks j := by
    intro j
    funext n
    unfold cellAt
    rcases h with h | h
    · simp [h, Nat.mod_one]
    · rw [Nat.add_mod, h, Nat.zero_add, Nat.mod_mod]
  have ha : (L.take o).length = o := by rw [List.length_take]; omega
  have hb : ((L.mapIdx (cellAt ks)).take o).length = o := by rw [List.length_take, List.length_mapIdx]; omega
  rw [List.append_assoc, List.append_assoc]
  simp only [cellsOf, List.getElem?_mapIdx]
  by_cases h1 : i < o
  · rw [List.getElem?_append_left (l₁ := L.take o) (by rw [ha]; exact h1), List.getElem?_append_left (l₁ := (L.mapIdx (cellAt ks)).take o) (by rw [hb]; exact h1)]
    simp [h1]
  · rw [List.getElem?_append_right (l₁ := L.take o) (by rw [ha]; omega), List.getElem?_append_right (l₁ := (L.mapIdx (cellAt ks)).take o) (by rw [hb]; omega), ha, hb]
    by_cases h2 : i - o < N.length
    · rw [List.getElem?_append_left (l₁ := N) h2, List.getElem?_append_left (l₁ := N.mapIdx (cellAt ks)) (by rw [List.length_mapIdx]; exact h2)]
      simp only [List.getElem?_mapIdx]
      have := hmod (i - o)
      rw [show o + (i - o) = i by omega] at this
      rw [this]
    · rw [List.getElem?_append_right (l₁ := N) (by omega), List.getElem?_append_right (l₁ := N.mapIdx (cellAt ks)) (by rw [List.length_mapIdx]; omega)]
      simp only [List.getElem?_drop, List.getElem?_mapIdx, List.length_mapIdx]
      rw [show o + N.length + (i - o - N.length) = i by omega]

theorem putNums_spec {n : Nat} {o c : At} {zo zc : Int} {q : List CK × Nat} {N : List Int} (hn : n < ρ.bs.length) (ho : AtIs ρ o zo) (hc : AtIs ρ c zc) (hN : LIs ρ q.2 N) (hNl : (N.length : Int) = zc) :
    MSpec Φ C (putNums n o q c) ρ h w (Put P w (ρ.at n o) (cellsOf q.1 N)) := by
  refine MSpec.rep fun r0 => ?_
  intro r k hk
  unfold putNums at hk
  split at hk
  · rename_i ks l bl sz el eb
    split at hk
    · rename_i hcond
      obtain ⟨rfl, hres⟩ := hcond
      have hb := r0.fact.heap _ (blk_mem eb)
      have hin := hb.inB
      have hh := hb.holds
      simp only [Blk.inB, Bool.and_eq_true, decide_eq_true_eq] at hin
      simp only [Blk.holds] at hh
      have hmod : 0 ≤ zo → (q.1.length = 1 ∨ zo.toNat % q.1.length = 0) := by
        intro h0
        rcases hres with h1 | h1
        · exact .inl h1
        · right
          have := residue_ok r0.fact 5 o 0 h1
          rw [ho.val] at this
          obtain ⟨m, hm⟩ := Int.eq_ofNat_of_zero_le h0
          rw [hm] at this ⊢
          simp only [Int.toNat_natCast]
          exact_mod_cast this
      have key : MSpec Φ C (do
          need .geq o (.c 0)
          need .geq c (.c 0)
          let e ← mkI (.add o c)
          need .leq e bl
          let l' ← mkL (.put l o q.2)
          fun h k => k () (h.setBlk n (.arr q.1 l' bl sz el)) : M Unit) ρ h w (Put P w (ρ.at n o) (cellsOf q.1 N)) := by
        refine (need_spec ho (AtIs.c ρ 0)).bind ?_
        rintro _ ρ1 h1 w1 l1 ⟨rfl, hp1, c1⟩
        refine (need_spec (hc.mono l1) (AtIs.c ρ1 0)).bind ?_
        rintro _ ρ2 h2 w2 l2 ⟨rfl, hp2, c2⟩
        have L2 := Env.le_trans l1 l2
        refine (add_spec (ho.mono L2) (hc.mono L2)).bind ?_
        rintro e ρ3 h3 w3 l3 ⟨rfl, hp3, he⟩
        have L3 := Env.le_trans L2 l3
        refine (need_spec he (AtIs.mono ⟨hin.2.1, rfl⟩ L3)).bind ?_
        rintro _ ρ4 h4 w4 l4 ⟨rfl, hp4, c4⟩
        have L4 := Env.le_trans L3 l4
        simp only [cmpB, decide_eq_true_eq] at c1 c2 c4
        have hl4 : LIs ρ4 l (ρ.ls.getD l []) := LIs.mono ⟨hin.1, rfl⟩ L4
        have hN4 := hN.mono L4
        refine (mkL_ok (o := .put l o q.2) (by simp only [LOp.okB, Bool.and_eq_true, decide_eq_true_eq]; exact ⟨hl4.1, (ho.mono L4).1, hN4.1⟩)).bind ?_
        rintro l' ρ5 h5 w5 l5 ⟨rfl, hp5, hl'⟩
        have L5 := Env.le_trans L4 l5
        simp only [LOp.den, hl4.2, (ho.mono L4).val, hN4.2] at hl'
        intro r5 k5 hk5
        have eb5 : h5.blk n = some (.arr q.1 l bl sz el) := (blk_of_hp (by rw [hp5, hp4, hp3, hp2, hp1]) n).trans eb
        have hfit : zo.toNat + N.length ≤ (ρ.ls.getD l []).length := by have := hh.1; omega
        have hb5 : ρ5.b n = ρ.b n := by obtain ⟨τ, rfl⟩ := L5; exact Env.b_app hb.lt
        have hsz5 : sz.den ρ5.is = sz.den ρ.is := (AtIs.mono ⟨hin.2.2, rfl⟩ L5).2
        have hbl5 : bl.den ρ5.is = bl.den ρ.is := (AtIs.mono ⟨hin.2.1, rfl⟩ L5).2
        by_cases hz : sz.den ρ.is = 0
        · -- nothing stands there, nothing is stored
          have hL0 := hh.2.1 hz
          have hN0 : N = [] := by rw [hL0] at hfit; simp at hfit; exact hfit.2
          subst hN0
          refine ⟨(), ρ5, _, w5, Env.le_refl ρ5, r5.setBlk eb5 (by simp [Blk.phys]) rfl (fun _ _ => rfl) rfl rfl ?_ ?_, hk5, by simp [Put, cellsOf, storeCells]⟩
          · simp only [Blk.inB, Bool.and_eq_true, decide_eq_true_eq]
            exact ⟨hl'.1, At.lt_mono hin.2.1 (Env.le_len L5).1, At.lt_mono hin.2.2 (Env.le_len L5).1⟩
          · have e0 : putL (ρ.ls.getD l []) zo.toNat [] = [] := by rw [hL0]; simp [putL]
            simp only [Blk.holds]
            rw [hl'.2, hbl5, hsz5, e0]
            refine ⟨by have := hh.1; rw [hL0] at this; exact this, fun _ => rfl, fun h0 => absurd hz h0⟩
        · obtain ⟨ho0, hcl⟩ := hh.2.2 hz
          obtain ⟨w', hr, hcells, hszw, hoth, hos, hout⟩ := store_row (P := P) (o := zo.toNat) (news := cellsOf q.1 N) hcl (by rw [cellsOf_len, cellsOf_len]; exact hfit) cellsOf_one
          refine ⟨(), ρ5, _, w', Env.le_refl ρ5, r5.setBlk eb5 (by simp [Blk.phys]) hszw (fun p hp => hoth p (by simp only [Blk.phys, hsz5, if_neg hz, hb5] at hp; simpa using hp)) hos hout ?_ ?_, hk5, ?_⟩
          · simp only [Blk.inB, Bool.and_eq_true, decide_eq_true_eq]
            exact ⟨hl'.1, At.lt_mono hin.2.1 (Env.le_len L5).1, At.lt_mono hin.2.2 (Env.le_len L5).1⟩
          · simp only [Blk.holds]
            rw [hl'.2, hbl5, hsz5, hb5, cellsOf_put (hmod c1) hfit]
            refine ⟨?_, fun h0 => absurd h0 hz, fun _ => ⟨ho0, ?_⟩⟩
            · rw [← hh.1]
              congr 1
              unfold putL
              simp only [List.length_append, List.length_take, List.length_drop]
              omega
            · rw [cellsOf_len] at hcells; exact hcells
          · have hat : ρ.at n o = ⟨(ρ.b n).1, zo.toNat, none⟩ := by simp [Env.at, ho0, ho.val]
            show (storeCells _ _).run P _ = _
            rw [hat]; exact hr
      exact key r k hk
    · exact hk.elim
  · exact hk.elim
end
end Go.Sx
/- Copying and clearing are sound; lengths and rooms; slices cut; zeros appended. -/
set_option linter.unusedVariables false
namespace Go.Sx
section
variable {Φ : Phi} {C : Ctx} {ρ : Env} {h : H} {w : World} {P : Program}

theorem copy_run {t t' ty elem : TypeId} {s : Nat} (eu : P.underlying t = some (.slice elem)) (es : sizeT P elem = some s) {a b : Addr} {dl dc sl sc : Nat} {news : List Value} (hl : news.length = Nat.min sl dl * s)
    (hnews : ∀ j v, news[j]? = some v → w.cell? (b.add j) = some v) {w' : World} (hst : (storeCells a news).run P w = .ok () w') :
    (Builtin.copy_ #[t, t'] ty #[.slice (some a) dl dc, .slice (some b) sl sc]).run P w = .ok (goInt (Nat.min sl dl)) w' := by
  have hf := run_firstCells_some (P := P) w s (Nat.min sl dl) b sl sc news hl hnews
  simp only [Builtin.copy_]
  simp [run_underlying eu, Builtin.lenOf, run_sizeOf' es, hf, hst]
theorem copy_run0 {t t' ty elem : TypeId} {s : Nat} (eu : P.underlying t = some (.slice elem)) (es : sizeT P elem = some s) {a b : Option Addr} {dl dc sl sc : Nat} (hab : a = none ∧ dl = 0 ∨ b = none ∧ sl = 0) :
    (Builtin.copy_ #[t, t'] ty #[.slice a dl dc, .slice b sl sc]).run P w = .ok (goInt 0) w := by
  have hl : ∀ b : Addr, (loadCells b 0).run P w = .ok #[] w := fun b => run_loadCells_list w b [] (fun j v h => by simp at h)
  rcases hab with ⟨rfl, rfl⟩ | ⟨rfl, rfl⟩
  · cases b <;> simp [Builtin.copy_, run_underlying eu, Builtin.lenOf, run_sizeOf' es, Builtin.firstCells, hl]
  · cases a <;> simp [Builtin.copy_, run_underlying eu, Builtin.lenOf, run_sizeOf' es, Builtin.firstCells, storeCells]

def CopyDoes (P : Program) (t t' : TypeId) (v u : Value) (w : World) : SV → Env → H → World → Prop := fun sv ρ' _ w' => ∃ z, SvIs ρ' sv z ∧ ∀ ty, (Builtin.copy_ #[t, t'] ty #[v, u]).run P w = .ok z w'
theorem copyGo_spec {t t' elem : TypeId} {s : Nat} (eu : P.underlying t = some (.slice elem)) (es : sizeT P elem = some s) {n m : Nat} {o dl p sl : At} {zo zd zp zs : Int} {dc sc : Nat} (hn : n < ρ.bs.length) (hm : m < ρ.bs.length)
    (ho : AtIs ρ o zo) (hd : AtIs ρ dl zd) (hp : AtIs ρ p zp) (hs : AtIs ρ sl zs) :
    MSpec Φ C (copyGo s n o dl m p sl) ρ h w (CopyDoes P t t' (.slice (some (ρ.at n o)) zd.toNat dc) (.slice (some (ρ.at m p)) zs.toNat sc) w) := by
  unfold copyGo
  refine (need_spec hd (AtIs.c ρ 0)).bind ?_
  rintro _ ρ1 h1 w1 l1 ⟨rfl, hp1, c1⟩
  refine (need_spec (hs.mono l1) (AtIs.c ρ1 0)).bind ?_
  rintro _ ρ2 h2 w2 l2 ⟨rfl, hp2, c2⟩
  simp only [cmpB, decide_eq_true_eq] at c1 c2
  have L2 := Env.le_trans l1 l2
  refine (mkI_ok (o := .mn sl dl) (okB2 (hs.mono L2).1 (hd.mono L2).1 (.mn sl dl) rfl rfl)).bind ?_
  rintro c ρ3 h3 w3 l3 ⟨rfl, hp3, hc⟩
  simp only [IOp.den, (hs.mono L2).val, (hd.mono L2).val] at hc
  have L3 := Env.le_trans L2 l3
  generalize hzc : (if zd < zs then zd else zs) = zc at hc
  have hcn : Nat.min zs.toNat zd.toNat = zc.toNat := by
    rw [← hzc]
    show min zs.toNat zd.toNat = _
    split <;> omega
  have hc0 : 0 ≤ zc := by rw [← hzc]; split <;> omega
  refine (mul_spec hc (AtIs.c ρ3 s)).bind ?_
  rintro cs ρ4 h4 w4 l4 ⟨rfl, hp4, hcs⟩
  have L4 := Env.le_trans L3 l4
  have natn : ∀ {ρ' : Env}, ρ.le ρ' → ρ'.at n o = ρ.at n o := fun {ρ'} l => at_mono l hn ho
  have natm : ∀ {ρ' : Env}, ρ.le ρ' → ρ'.at m p = ρ.at m p := fun {ρ'} l => at_mono l hm hp
  have nums : MSpec Φ C (do
        toArr m
        toArr n
        let q ← rdList m p cs
        putNums n o q cs : M Unit) ρ4 h4 w4 fun _ ρ' h' w' => (Builtin.copy_ #[t, t'] 0 #[.slice (some (ρ.at n o)) zd.toNat dc, .slice (some (ρ.at m p)) zs.toNat sc]).run P w4 = .ok (goInt zc.toNat) w' := by
    refine toArr_w.bind ?_
    rintro _ ρ5 h5 w5 l5 rfl
    refine toArr_w.bind ?_
    rintro _ ρ6 h6 w6 l6 rfl
    have L6 := Env.le_trans L4 (Env.le_trans l5 l6)
    have hcs6 := hcs.mono (Env.le_trans l5 l6)
    refine (rdList_spec (Nat.lt_of_lt_of_le hm (Env.le_len L6).2.2) (hp.mono L6) hcs6).bind ?_
    rintro q ρ7 h7 w7 l7 ⟨rfl, hp7, z0, z1, N, hN, hNl, hcells⟩
    have L7 := Env.le_trans L6 l7
    refine (putNums_spec (P := P) (Nat.lt_of_lt_of_le hn (Env.le_len L7).2.2) (ho.mono L7) (hcs6.mono l7) hN hNl).mono ?_
    rintro _ ρ8 h8 w8 l8 hst
    unfold Put at hst
    rw [natn L7] at hst
    rw [natm L6] at hcells
    have hNl' : N.length = zc.toNat * s := by rw [natMul hc0] at hNl; exact_mod_cast hNl
    have := copy_run (t' := t') (ty := 0) (dl := zd.toNat) (dc := dc) (sl := zs.toNat) (sc := sc) eu es (news := cellsOf q.1 N) (by rw [cellsOf_len, hNl', hcn]) hcells hst
    rw [hcn] at this
    exact this
  have mid : MSpec Φ C (fun h k => match h.fixed c with
    | some c0 => if isCells h n && decide (0 ≤ c0 ∧ c0 ≤ 1000000) then (do
        need .geq p (.c 0)
        let ys ← rdCells m p 0 (c0.toNat * s)
        putCells n o ys : M Unit) h k
      else (do
        toArr m
        toArr n
        let q ← rdList m p cs
        putNums n o q cs : M Unit) h k
    | none => (do
        toArr m
        toArr n
        let q ← rdList m p cs
        putNums n o q cs : M Unit) h k : M Unit) ρ4 h4 w4 fun _ ρ' h' w' => (Builtin.copy_ #[t, t'] 0 #[.slice (some (ρ.at n o)) zd.toNat dc, .slice (some (ρ.at m p)) zs.toNat sc]).run P w4 = .ok (goInt zc.toNat) w' := by
    refine MSpec.rep fun r4 => ?_
    intro r k hk
    simp only at hk
    split at hk
    · rename_i c0 ec
      have hcc := fixed_ok r4.fact ec
      rw [(hc.mono l4).val] at hcc
      subst hcc
      split at hk
      · have key : MSpec Φ C (do
          need .geq p (.c 0)
          let ys ← rdCells m p 0 (zc.toNat * s)
          putCells n o ys : M Unit) ρ4 h4 w4 fun _ ρ' h' w' => (Builtin.copy_ #[t, t'] 0 #[.slice (some (ρ.at n o)) zd.toNat dc, .slice (some (ρ.at m p)) zs.toNat sc]).run P w4 = .ok (goInt zc.toNat) w' := by
          refine (need_spec (hp.mono L4) (AtIs.c ρ4 0)).bind ?_
          rintro _ ρ5 h5 w5 l5 ⟨rfl, hp5, c5⟩
          simp only [cmpB, decide_eq_true_eq] at c5
          have L5 := Env.le_trans L4 l5
          refine (rdCells_spec (Nat.lt_of_lt_of_le hm (Env.le_len L5).2.2) (hp.mono L5) c5 0 (zc.toNat * s)).bind ?_
          rintro ys ρ6 h6 w6 l6 ⟨rfl, hp6, hys, hysl, hcells⟩
          have L6 := Env.le_trans L5 l6
          refine (putCells_spec (P := P) (Nat.lt_of_lt_of_le hn (Env.le_len L6).2.2) (ho.mono L6) hys).mono ?_
          rintro _ ρ8 h8 w8 l8 hst
          unfold Put at hst
          rw [natn L6] at hst
          rw [natm L5] at hcells
          have := copy_run (t' := t') (ty := 0) (dl := zd.toNat) (dc := dc) (sl := zs.toNat) (sc := sc) eu es (news := SV.dens ρ6 ys) (by rw [SV.dens_eq, List.length_map, hysl, hcn]) (fun j v hj => by have := hcells j v hj; rw [Nat.zero_add] at this; exact this) hst
          rw [hcn] at this
          exact this
        exact key r k hk
      · exact nums r k hk
    · exact nums r k hk
  refine mid.bind ?_
  rintro _ ρ5 h5 w5 l5 hrun
  refine MSpec.ret ⟨.int .i64 zc, ((hc.mono l4).mono l5).svi, fun ty => ?_⟩
  have e : goInt zc.toNat = .int .i64 zc := by simp [goInt, Int.toNat_of_nonneg hc0]
  rw [← e]
  exact hrun
theorem copyM_spec {t t' : TypeId} {x y : SV} {v u : Value} (hx : SvIs ρ x v) (hy : SvIs ρ y u) : MSpec Φ C (copyM P t x y) ρ h w (CopyDoes P t t' v u w) := by
  intro r k hk
  unfold copyM at hk
  split at hk
  · rename_i elem eu
    split at hk
    · rename_i s n o dl dc m p sl sc es
      obtain ⟨hn, ho, hd, _, rfl⟩ := hx.slc
      obtain ⟨hm, hp, hs, _, rfl⟩ := hy.slc
      exact copyGo_spec eu es hn hm ho hd hp hs r k hk
    · rename_i s n o dl dc es
      obtain ⟨hn, ho, hd, _, rfl⟩ := hx.slc
      obtain rfl := hy.nils
      exact ⟨_, ρ, h, w, Env.le_refl ρ, r, hk, _, (AtIs.c ρ 0).svi, fun ty => copy_run0 eu es (.inr ⟨rfl, rfl⟩)⟩
    · rename_i s es
      obtain rfl := hx.nils
      obtain rfl := hy.nils
      exact ⟨_, ρ, h, w, Env.le_refl ρ, r, hk, _, (AtIs.c ρ 0).svi, fun ty => copy_run0 eu es (.inl ⟨rfl, rfl⟩)⟩
    · rename_i s m p sl sc es
      obtain rfl := hx.nils
      obtain ⟨hm, hp, hs, _, rfl⟩ := hy.slc
      exact ⟨_, ρ, h, w, Env.le_refl ρ, r, hk, _, (AtIs.c ρ 0).svi, fun ty => copy_run0 eu es (.inl ⟨rfl, rfl⟩)⟩
    · exact hk.elim
  · exact hk.elim

def ClearDoes (P : Program) (t : TypeId) (v : Value) (w : World) : SV → Env → H → World → Prop := fun sv ρ' _ w' => ∃ z, SvIs ρ' sv z ∧ ∀ ty, (Builtin.clear_ #[t] ty #[v]).run P w = .ok z w'
theorem clearM_spec {t : TypeId} {x : SV} {v : Value} (hx : SvIs ρ x v) : MSpec Φ C (clearM P t x) ρ h w (ClearDoes P t v w) := by
  refine MSpec.rep fun r0 => ?_
  intro r k hk
  unfold clearM at hk
  split at hk
  · rename_i elem eu
    obtain rfl := hx.nils
    exact ⟨_, ρ, h, w, Env.le_refl ρ, r, hk, .tuple #[], ⟨rfl, by simp [SV.den, SV.dens]⟩, fun ty => by simp [Builtin.clear_, run_underlying eu]⟩
  · rename_i elem n o l c eu
    obtain ⟨hn, ho, hl, _, rfl⟩ := hx.slc
    split at hk
    · rename_i s zs es ez
      split at hk
      · rename_i hc
        obtain ⟨hzl, hs⟩ := hc
        obtain ⟨z, ez', hzo, hzc⟩ := zeroCellsT_is ez w
        split at hk
        · rename_i l0 el
          have hl0 := fixed_ok r0.fact el
          split at hk
          · rename_i hc2
            simp only [Bool.and_eq_true, decide_eq_true_eq] at hc2
            have key : MSpec Φ C (do putCells n o (repeatZ zs l0.toNat); pure (.tup []) : M SV) ρ h w (ClearDoes P t (.slice (some (ρ.at n o)) (l.den ρ.is).toNat (c.den ρ.is).toNat) w) := by
              refine (putCells_spec (P := P) hn ho (repeatZ_ok (hzo ρ) l0.toNat)).bind ?_
              rintro _ ρ1 h1 w1 l1 hst
              refine MSpec.ret ⟨.tuple #[], ⟨rfl, by simp [SV.den, SV.dens]⟩, fun ty => ?_⟩
              unfold Put at hst
              obtain ⟨kk, hkk⟩ : ∃ kk, (l.den ρ.is).toNat = kk + 1 := ⟨(l.den ρ.is).toNat - 1, by omega⟩
              have hzz : (Builtin.zeroCells z.cells (kk + 1)).toList = SV.dens ρ (repeatZ zs l0.toNat) := by
                have e1 : l0.toNat = kk + 1 := by rw [← hl0]; exact hkk
                have hsz : z.cells.size = s := by rw [hzc ρ]; simp [SV.dens_eq, hzl]
                have := repeatZ_dens (ρ := ρ) (n := kk + 1) hzl hs
                rw [e1]
                unfold Builtin.zeroCells
                rw [hzc ρ] at hsz ⊢
                rw [hsz]
                have e2 : (SV.dens ρ zs).toArray.size = s := hsz
                rw [e2] at this
                rw [this]
              have hrun : (do storeCells (ρ.at n o) (Builtin.zeroCells (← zeroValue elem).cells (kk + 1)).toList : Sem Unit).run P w = .ok () w1 := by
                simp only [Sem.run_bind, run_zeroValue' ez', Result.andThen_ok]
                rw [hzz]; exact hst
              rw [hkk]
              simp only [Builtin.clear_]
              simp only [Sem.run_bind, run_zeroValue' ez', Result.andThen_ok] at hrun
              simp [run_underlying eu, run_zeroValue' ez', hrun]
            exact key r k hk
          · split at hk
            · rename_i hc2
              simp only [decide_eq_true_eq] at hc2
              have key : MSpec Φ C (do need .geq o (.c 0); wrCells n o 0 (repeatZ zs l0.toNat); pure (.tup []) : M SV) ρ h w (ClearDoes P t (.slice (some (ρ.at n o)) (l.den ρ.is).toNat (c.den ρ.is).toNat) w) := by
                refine (need_spec ho (AtIs.c ρ 0)).bind ?_
                rintro _ ρ0 h0 w0 l0' ⟨rfl, hp0, c0⟩
                simp only [cmpB, decide_eq_true_eq] at c0
                refine (wrCells_spec (P := P) (Nat.lt_of_lt_of_le hn (Env.le_len l0').2.2) (ho.mono l0') c0 _ (repeatZ_ok (hzo ρ0) l0.toNat) 0).bind ?_
                rintro _ ρ1 h1 w1 l1 hst
                refine MSpec.ret ⟨.tuple #[], ⟨rfl, by simp [SV.den, SV.dens]⟩, fun ty => ?_⟩
                have hat : ρ0.at n o = ρ.at n o := at_mono l0' hn ho
                have hdz : SV.dens ρ0 (repeatZ zs l0.toNat) = SV.dens ρ (repeatZ zs l0.toNat) := by obtain ⟨τ, rfl⟩ := l0'; exact SV.dens_app _ (repeatZ_ok (hzo ρ) l0.toNat)
                rw [hat, hdz] at hst
                obtain ⟨kk, hkk⟩ : ∃ kk, (l.den ρ.is).toNat = kk + 1 := ⟨(l.den ρ.is).toNat - 1, by omega⟩
                have hzz : (Builtin.zeroCells z.cells (kk + 1)).toList = SV.dens ρ (repeatZ zs l0.toNat) := by
                  have e1 : l0.toNat = kk + 1 := by rw [← hl0]; exact hkk
                  have hsz : z.cells.size = s := by rw [hzc ρ]; simp [SV.dens_eq, hzl]
                  have := repeatZ_dens (ρ := ρ) (n := kk + 1) hzl hs
                  rw [e1]
                  unfold Builtin.zeroCells
                  rw [hzc ρ] at hsz ⊢
                  rw [hsz]
                  have e2 : (SV.dens ρ zs).toArray.size = s := hsz
                  rw [e2] at this
                  rw [this]
                have hrun : (do storeCells (ρ.at n o) (Builtin.zeroCells (← zeroValue elem).cells (kk + 1)).toList : Sem Unit).run P w0 = .ok () w1 := by
                  simp only [Sem.run_bind, run_zeroValue' ez', Result.andThen_ok]
                  rw [hzz]; exact hst
                rw [hkk]
                simp only [Builtin.clear_]
                simp only [Sem.run_bind, run_zeroValue' ez', Result.andThen_ok] at hrun
                simp [run_underlying eu, run_zeroValue' ez', hrun]
              exact key r k hk
            · exact hk.elim
        · exact hk.elim
      · exact hk.elim
    · exact hk.elim
  · exact hk.elim
end
end Go.Sx
/- Lengths and rooms of slices that may be nil; slices cut; zeros appended. -/
set_option linter.unusedVariables false
namespace Go.Sx

def vecLen (n : Nat) (len cap : At) : M At := fun h k =>
  if vecFact h n len cap then (do need .geq len (.c 0); pure len : M At) h k
  else (do need .geq len (.c 0); mkI (.pick cap len (.c 0)) : M At) h k
/-- A slice that is nil, or one with a place. -/
def asSlc (x : SV) : M SV :=
  match x with
  | .vec n len cap => do
    let e ← mkI (.cmp .eql cap (.c 0))
    let b ← dec e
    if b then pure .nils else pure (.slc n (.c 0) len cap)
  | x => pure x
def capM (x : SV) : M SV :=
  match x with
  | .nils => pure (.i .i64 (.c 0))
  | .slc _ _ _ c => do
    need .geq c (.c 0)
    pure (.i .i64 c)
  | .vec _ _ c => do
    need .geq c (.c 0)
    pure (.i .i64 c)
  | _ => M.no 450
/-- x[lo:hi:max] -/
def slice3M (P : Program) (ev : Operand → Option SV) (t : TypeId) (x : SV) (lo : Option Operand) (hi mx : Operand) : M SV :=
  match P.underlying t, x with
  | some (.slice elem), .slc n o len cap => (match bndS ev (.c 0) lo, bndS ev len (some hi), bndS ev cap (some mx) with
    | some l, some h, some m => do
      need .leq m cap
      cutM P elem n o m l h
    | _, _, _ => M.no 451)
  | _, _ => M.no 452
def sliceV (P : Program) (ev : Operand → Option SV) (t : TypeId) (x : SV) (lo hi mx : Option Operand) : M SV :=
  match hi, mx with
  | some hi, some mx => slice3M P ev t x lo hi mx
  | _, _ => do
    let y ← asSlc x
    sliceM P ev t y lo hi mx
def chkZero (ks : List CK) (s : Nat) (qs : List CK) : M Unit := if qs = oneKind ks ∧ s % qs.length = 0 then pure () else M.no 460
/-- Appending zeros where there is no room for them. -/
def zerosM (P : Program) (t t' : TypeId) (x : SV) (a : At) : M SV := fun h k =>
  match P.underlying t, P.underlying t', x with
  | some (.slice elem), some (.int _), .slc n o len cap => (match sizeT P elem, zeroCellsT P elem, P.info? elem with
    | some s, some zs, some inf => (match zeroKinds zs with
      | some ks => if h.zeroAt o ∧ zs.length = s ∧ 0 < s ∧ inf.bytes ≤ 1000 then (do
          need .geq a (.c 0)
          need .leq a (.c 1000000)
          need .geq len (.c 0)
          need .geq cap (.c 0)
          let need' ← mkI (.add len a)
          need .leq need' At.small
          need .gtr need' cap
          let ls ← mkI (.mul len (.c s))
          toArr n
          let q ← rdList n o ls
          let as ← mkI (.mul a (.c s))
          let z ← mkL (.rep as (.c 0))
          let l ← mkL (.app q.2 z)
          chkZero ks s q.1
          let cap' ← anyI need' (.c 9223372036854775807)
          let bl ← mkI (.mul need' (.c s))
          let sz ← mkI (.mul cap' (.c s))
          fun h kk => growTo .nil (.slc h.nb (.c 0) need' cap') (.arr q.1 l bl sz elem) h kk : M SV) h k else .fail 461
      | none => .fail 462)
    | _, _, _ => .fail 463)
  | _, _, _ => .fail 464

section
variable {Φ : Phi} {C : Ctx} {ρ : Env} {h : H} {w : World} {P : Program}
theorem vecLen_spec {n : Nat} {len cap : At} {zl zc : Int} (hl : AtIs ρ len zl) (hc : AtIs ρ cap zc) : MSpec Φ C (vecLen n len cap) ρ h w fun a ρ' h' w' => w' = w ∧ h'.hp = h.hp ∧ 0 ≤ zl ∧ AtIs ρ' a (if zc = 0 then 0 else zl) := by
  refine MSpec.rep fun r0 => ?_
  intro r k hk
  unfold vecLen at hk
  split at hk
  · rename_i e
    have key : MSpec Φ C (do need .geq len (.c 0); pure len : M At) ρ h w fun a ρ' h' w' => w' = w ∧ h'.hp = h.hp ∧ 0 ≤ zl ∧ AtIs ρ' a (if zc = 0 then 0 else zl) := by
      refine (need_spec hl (AtIs.c ρ 0)).bind ?_
      rintro _ ρ1 h1 w1 l1 ⟨rfl, hp1, c1⟩
      simp only [cmpB, decide_eq_true_eq] at c1
      refine MSpec.ret ⟨rfl, hp1, c1, ?_⟩
      split
      · rename_i hz
        have := vecFact_ok r0.fact e (by rw [hc.val]; exact hz)
        rw [hl.val] at this
        subst this
        exact hl.mono l1
      · exact hl.mono l1
    exact key r k hk
  · have key : MSpec Φ C (do need .geq len (.c 0); mkI (.pick cap len (.c 0)) : M At) ρ h w fun a ρ' h' w' => w' = w ∧ h'.hp = h.hp ∧ 0 ≤ zl ∧ AtIs ρ' a (if zc = 0 then 0 else zl) := by
      refine (need_spec hl (AtIs.c ρ 0)).bind ?_
      rintro _ ρ1 h1 w1 l1 ⟨rfl, hp1, c1⟩
      simp only [cmpB, decide_eq_true_eq] at c1
      refine (mkI_ok (okB3 (hc.mono l1).1 (hl.mono l1).1 rfl (.pick cap len (.c 0)) rfl rfl)).mono ?_
      rintro a ρ2 h2 w2 l2 ⟨rfl, hp2, ha⟩
      simp only [IOp.den, (hc.mono l1).val, (hl.mono l1).val, At.den_c] at ha
      exact ⟨rfl, by rw [hp2, hp1], c1, ha⟩
    exact key r k hk
theorem asSlc_spec {x : SV} {v : Value} (hx : SvIs ρ x v) : MSpec Φ C (asSlc x) ρ h w fun y ρ' h' w' => w' = w ∧ h'.hp = h.hp ∧ SvIs ρ' y v := by
  unfold asSlc
  split
  · rename_i n len cap
    obtain ⟨hn, hl, hc, rfl⟩ := hx.vec
    refine (cmp_spec (op := .eql) hc (AtIs.c ρ 0)).bind ?_
    rintro e ρ1 h1 w1 l1 ⟨rfl, hp1, he⟩
    refine (dec_spec he).bind ?_
    rintro b ρ2 h2 w2 l2 ⟨rfl, hp2, hbb⟩
    have L2 := Env.le_trans l1 l2
    have hbe : (cap.den ρ.is == 0) = b := by rw [← hbb]; cases hq : (cap.den ρ.is == 0) <;> simp [cmpB, b2i, hq]
    cases b with
    | true =>
      have hz : cap.den ρ.is = 0 := by simpa using hbe
      exact MSpec.ret ⟨rfl, by rw [hp2, hp1], rfl, by rw [if_pos hz]; rfl⟩
    | false =>
      have hz : ¬ cap.den ρ.is = 0 := by simpa using hbe
      refine MSpec.ret ⟨rfl, by rw [hp2, hp1], ?_, ?_⟩
      · simp only [SV.ok, Bool.and_eq_true, decide_eq_true_eq]
        exact ⟨Nat.lt_of_lt_of_le hn (Env.le_len L2).2.2, rfl, (hl.mono L2).1, (hc.mono L2).1⟩
      · have hb : ρ2.b n = ρ.b n := by obtain ⟨τ, rfl⟩ := L2; exact Env.b_app hn
        rw [if_neg hz]
        simp [SV.den, Env.at, hb, (hl.mono L2).2, (hc.mono L2).2]
  · exact MSpec.ret ⟨rfl, rfl, hx⟩
theorem capM_spec {t ty : TypeId} {elem : TypeId} (eu : P.underlying t = some (.slice elem)) {x : SV} {v : Value} (hx : SvIs ρ x v) : MSpec Φ C (capM x) ρ h w (DoesV P w h (Builtin.cap_ #[t] ty #[v])) := by
  unfold capM
  split
  · obtain rfl := hx.nils
    exact MSpec.ret ⟨rfl, rfl, _, (AtIs.c ρ 0).svi, fun W => by simp [Builtin.cap_, run_underlying eu, goInt]⟩
  · obtain ⟨_, _, _, hc, rfl⟩ := hx.slc
    refine (need_spec hc (AtIs.c ρ 0)).bind ?_
    rintro _ ρ1 h1 w1 l1 ⟨rfl, hp1, c1⟩
    simp only [cmpB, decide_eq_true_eq] at c1
    exact MSpec.ret ⟨rfl, hp1, _, (hc.mono l1).svi, fun W => by simp [Builtin.cap_, run_underlying eu, goInt, Int.toNat_of_nonneg c1]⟩
  · rename_i n l c
    obtain ⟨_, _, hc, rfl⟩ := hx.vec
    refine (need_spec hc (AtIs.c ρ 0)).bind ?_
    rintro _ ρ1 h1 w1 l1 ⟨rfl, hp1, c1⟩
    simp only [cmpB, decide_eq_true_eq] at c1
    refine MSpec.ret ⟨rfl, hp1, _, (hc.mono l1).svi, fun W => ?_⟩
    by_cases hz : c.den ρ.is = 0
    · simp [Builtin.cap_, run_underlying eu, goInt, hz]
    · simp [Builtin.cap_, run_underlying eu, goInt, hz, Int.toNat_of_nonneg c1]
  · exact MSpec.no
theorem bounds3_run {isSlice : Bool} {len cap : Nat} {lo : Option Value} {l h m : Int} {k1 k2 : IntKind} (hl : BndIs lo 0 l) (h0 : 0 ≤ l) (h1 : l ≤ h) (h2 : h ≤ m) (h3 : m ≤ cap) (w : World) :
    (Instr.sliceBounds isSlice len cap lo (some (.int k1 h)) (some (.int k2 m))).run P w = .ok (l.toNat, h.toNat, m.toNat) w := by
  have em : (m.toNat : Int) = m := Int.toNat_of_nonneg (by omega)
  have eh : (h.toNat : Int) = h := Int.toNat_of_nonneg (by omega)
  have g1 : 0 ≤ m := by omega
  have g2 : 0 ≤ h := by omega
  rcases hl with ⟨rfl, rfl⟩ | ⟨kl, rfl⟩ <;> simp [Instr.sliceBounds, Instr.sliceBound, asIntOf, *]
theorem slice3M_spec {sl : Slots} {a : Act} (r : RepS ρ sl a) {t : TypeId} {x : SV} {v : Value} (hx : SvIs ρ x v) (lo : Option Operand) (hi mx : Operand) :
    MSpec Φ C (slice3M P (evalO sl) t x lo hi mx) ρ h w (DoesV P w h (Instr.sliceAt t v (lo.map a.eval) (some (a.eval hi)) (some (a.eval mx)))) := by
  unfold slice3M
  split
  · rename_i elem n o len cap eu
    obtain ⟨hn, ho, hl, hc, rfl⟩ := hx.slc
    split
    · rename_i l h' m el eh em
      obtain ⟨zl, hl', bl⟩ := bndS_is r (AtIs.c ρ 0) el
      obtain ⟨zh, hh', bh⟩ := bndS_is r hl eh
      obtain ⟨zm, hm', bm⟩ := bndS_is r hc em
      obtain ⟨k1, hk1⟩ : ∃ k, a.eval hi = .int k zh := by
        rcases bh with ⟨h1, _⟩ | ⟨k, h1⟩
        · cases h1
        · exact ⟨k, by simpa using h1⟩
      obtain ⟨k2, hk2⟩ : ∃ k, a.eval mx = .int k zm := by
        rcases bm with ⟨h1, _⟩ | ⟨k, h1⟩
        · cases h1
        · exact ⟨k, by simpa using h1⟩
      refine (need_spec hm' hc).bind ?_
      rintro _ ρ1 h1 w1 l1 ⟨rfl, hp1, c1⟩
      simp only [cmpB, decide_eq_true_eq] at c1
      refine (cutM_spec (P := P) (Nat.lt_of_lt_of_le hn (Env.le_len l1).2.2) (by have := ho.mono l1; exact ⟨this.1, rfl⟩) (hm'.mono l1) (hl'.mono l1) (hh'.mono l1)).mono ?_
      rintro sv ρ2 h2 w2 l2 ⟨rfl, hp2, d1, d2, d3, s, es, hs⟩
      refine ⟨rfl, by rw [hp2, hp1], _, hs, fun W => ?_⟩
      rw [at_mono l1 hn ho]
      have b3 := bounds3_run (P := P) (isSlice := true) (len := (len.den ρ.is).toNat) (cap := (cap.den ρ.is).toNat) (k1 := k1) (k2 := k2) bl d1 d2 d3 (by omega) W
      simp [Instr.sliceAt, run_underlying eu, Instr.slice, hk1, hk2, b3, run_sizeOf' es, cutV]
      split <;> rfl
    · exact MSpec.no
  · exact MSpec.no
theorem sliceV_spec {sl : Slots} {a : Act} (r : RepS ρ sl a) {t : TypeId} {x : SV} {v : Value} (hx : SvIs ρ x v) (lo hi mx : Option Operand) :
    MSpec Φ C (sliceV P (evalO sl) t x lo hi mx) ρ h w (DoesV P w h (Instr.sliceAt t v (lo.map a.eval) (hi.map a.eval) (mx.map a.eval))) := by
  unfold sliceV
  split
  · exact slice3M_spec r hx lo _ _
  · refine (asSlc_spec hx).bind ?_
    rintro y ρ1 h1 w1 l1 ⟨rfl, hp1, hy⟩
    refine (sliceM_spec (P := P) (r.mono l1) hy lo hi mx).mono ?_
    rintro sv ρ2 h2 w2 l2 ⟨rfl, hp2, z, hz, hr⟩
    exact ⟨rfl, by rw [hp2, hp1], z, hz, hr⟩

theorem run_append_zeros {t t' ty e : TypeId} {i : TypeInfo} {z : Value} {kk k0 : IntKind} (ht : P.underlying t = some (.slice e)) (ht' : P.underlying t' = some (.int k0)) (hi : P.info? e = some i) (hz : i.zero = some z) (hb : i.bytes ≤ 1000) (hs : 0 < i.size)
    {b : Addr} {sLen sCap n : Nat} {olds : List Value} (hlo : olds.length = sLen * i.size) (holds : ∀ j v, olds[j]? = some v → w.cell? (b.add j) = some v) (hg : sCap < sLen + n) (hsm : sLen + n ≤ 1000000) :
    (Builtin.append_ #[t, t'] ty #[.slice (some b) sLen sCap, .int kk n]).run P w =
      .ok (.slice (some ⟨w.heap.size, 0, none⟩) (sLen + n) (grownCap w (sLen + n) sCap e))
        (w.drew.alloc (.cells (olds.toArray ++ (if n * i.size = 0 then #[] else Builtin.zeroCells z.cells n) ++ Builtin.zeroCells z.cells (grownCap w (sLen + n) sCap e - (sLen + n))) e)) := by
  have hw : IntKind.i64.wrap (n : Int) = n := wrap_small (by omega) (by omega) rfl
  have h0 : ¬ ((n : Int) < 0) := by omega
  have h2 : ¬ ((n : Int) * (i.bytes : Int) > 2 ^ 48) := by
    have : (n : Int) * (i.bytes : Int) ≤ 1000000 * 1000 := Int.mul_le_mul (by omega) (by omega) (by omega) (by omega)
    omega
  have hn : ¬ (sLen + n ≤ sCap) := by omega
  have h63' : ¬ (9223372036854775807 < ((sLen : Int) + (n : Int))) := by omega
  have hb2 : (sLen + n) * i.bytes ≤ 140737488355328 := by
    have := Nat.mul_le_mul hsm hb
    omega
  have h48 := growslice_fits hg hb2
  have h48' : ¬ (281474976710656 < Builtin.nextslicecap (sLen + n) sCap * i.bytes) := by omega
  have hfo := run_firstCells_some (P := P) w.drew i.size sLen b sLen sCap olds hlo (by simpa using holds)
  have h2' : ¬ (281474976710656 < (n : Int) * (i.bytes : Int)) := by omega
  simp [Builtin.append_, run_underlying ht, run_underlying ht', sizeOf, typeInfo, zeroValue, hi, hz, asInt, asIntOf, hw, h0, h2', hn, h63', h48', Question.forced, hfo, newRow, grownCap]
  by_cases hns : n * i.size = 0
  · simp only [if_pos hns, Array.empty_append]
  · simp only [if_neg hns]
def ZerosDo (P : Program) (t t' : TypeId) (v u : Value) (w : World) : SV → Env → H → World → Prop := fun sv ρ' _ w' => ∃ z, SvIs ρ' sv z ∧ ∀ ty, (Builtin.append_ #[t, t'] ty #[v, u]).run P w = .ok z w'
theorem zerosM_spec {t t' : TypeId} {x : SV} {v : Value} {a : At} {za : Int} {k : IntKind} (hx : SvIs ρ x v) (ha : AtIs ρ a za) : MSpec Φ C (zerosM P t t' x a) ρ h w (ZerosDo P t t' v (.int k za) w) := by
  refine MSpec.rep fun r0 => ?_
  intro r kk hk
  unfold zerosM at hk
  split at hk
  · rename_i elem k0 n o len cap eu eu'
    obtain ⟨hn, ho, hl, hc, rfl⟩ := hx.slc
    split at hk
    · rename_i s zs inf es ez ei
      split at hk
      · rename_i ks ek
        split at hk
        · rename_i hcond
          obtain ⟨hz0, hzl, hs, hb⟩ := hcond
          obtain ⟨hsz, z, hz, hzs⟩ := elemInfo es ez ei hzl
          have ho0 := zeroAt_ok r0.fact hz0
          have hks := zeroKinds_ok ek
          obtain ⟨z', ez', _, hzc⟩ := zeroCellsT_is ez w
          have hzz : z' = z := by
            unfold zeroT at ez'
            rw [ei] at ez'
            simp only [Option.bind_some] at ez'
            rw [hz] at ez'
            exact (Option.some.inj ez').symm
          subst hzz
          have key : MSpec Φ C (do
              need .geq a (.c 0)
              need .leq a (.c 1000000)
              need .geq len (.c 0)
              need .geq cap (.c 0)
              let need' ← mkI (.add len a)
              need .leq need' At.small
              need .gtr need' cap
              let ls ← mkI (.mul len (.c s))
              toArr n
              let q ← rdList n o ls
              let as ← mkI (.mul a (.c s))
              let z ← mkL (.rep as (.c 0))
              let l ← mkL (.app q.2 z)
              chkZero ks s q.1
              let cap' ← anyI need' (.c 9223372036854775807)
              let bl ← mkI (.mul need' (.c s))
              let sz ← mkI (.mul cap' (.c s))
              fun h kk => growTo .nil (.slc h.nb (.c 0) need' cap') (.arr q.1 l bl sz elem) h kk : M SV) ρ h w (ZerosDo P t t' (.slice (some (ρ.at n o)) (len.den ρ.is).toNat (cap.den ρ.is).toNat) (.int k za) w) := by
            refine (need_spec ha (AtIs.c ρ 0)).bind ?_
            rintro _ ρ1 h1 w1 l1 ⟨rfl, hp1, c1⟩
            refine (need_spec (ha.mono l1) (AtIs.c ρ1 1000000)).bind ?_
            rintro _ ρ2 h2 w2 l2 ⟨rfl, hp2, c2⟩
            have L2 := Env.le_trans l1 l2
            refine (need_spec (hl.mono L2) (AtIs.c ρ2 0)).bind ?_
            rintro _ ρ3 h3 w3 l3 ⟨rfl, hp3, c3⟩
            have L3 := Env.le_trans L2 l3
            refine (need_spec (hc.mono L3) (AtIs.c ρ3 0)).bind ?_
            rintro _ ρ4 h4 w4 l4 ⟨rfl, hp4, c4⟩
            have L4 := Env.le_trans L3 l4
            refine (add_spec (hl.mono L4) (ha.mono L4)).bind ?_
            rintro na ρ5 h5 w5 l5 ⟨rfl, hp5, hna⟩
            have L5 := Env.le_trans L4 l5
            refine (need_spec hna (AtIs.c ρ5 1000000)).bind ?_
            rintro _ ρ6 h6 w6 l6 ⟨rfl, hp6, c6⟩
            have L6 := Env.le_trans L5 l6
            refine (need_spec (hna.mono l6) (hc.mono L6)).bind ?_
            rintro _ ρ7 h7 w7 l7 ⟨rfl, hp7, c7⟩
            have L7 := Env.le_trans L6 l7
            simp only [cmpB, decide_eq_true_eq] at c1 c2 c3 c4 c6 c7
            refine (mul_spec (hl.mono L7) (AtIs.c ρ7 s)).bind ?_
            rintro ls ρ8 h8 w8 l8 ⟨rfl, hp8, hls⟩
            have L8 := Env.le_trans L7 l8
            refine toArr_w.bind ?_
            rintro _ ρ9 h9 w9 l9 rfl
            have L9 := Env.le_trans L8 l9
            refine (rdList_spec (Nat.lt_of_lt_of_le hn (Env.le_len L9).2.2) (ho.mono L9) (hls.mono l9)).bind ?_
            rintro q ρ10 h10 w10 l10 ⟨rfl, hp10, z0, z1, N, hN, hNl, hcells⟩
            have L10 := Env.le_trans L9 l10
            rw [at_mono L9 hn ho] at hcells
            refine (mul_spec (ha.mono L10) (AtIs.c ρ10 s)).bind ?_
            rintro as ρ11 h11 w11 l11 ⟨rfl, hp11, has⟩
            refine (mkL_ok (o := .rep as (.c 0)) (by simp only [LOp.okB, has.1, Bool.true_and]; rfl)).bind ?_
            rintro zl ρ12 h12 w12 l12 ⟨rfl, hp12, hzl'⟩
            have hN12 := (hN.mono l11).mono l12
            refine (mkL_ok (okB_app hN12.1 hzl'.1)).bind ?_
            rintro lf ρ13 h13 w13 l13 ⟨rfl, hp13, hlf⟩
            simp only [LOp.den, has.val, At.den_c] at hzl'
            simp only [LOp.den, hN12.2, hzl'.2] at hlf
            have chk : MSpec Φ C (chkZero ks s q.1) ρ13 h13 w13 fun _ ρ' h' w' => w' = w13 ∧ q.1 = oneKind ks ∧ s % q.1.length = 0 := by
              unfold chkZero
              split
              · rename_i hc; exact MSpec.ret ⟨rfl, hc⟩
              · exact MSpec.no
            refine chk.bind ?_
            rintro _ ρ14 h14 w14 l14 ⟨rfl, hqk, hqs⟩
            have L14 := Env.le_trans L10 (Env.le_trans l11 (Env.le_trans l12 (Env.le_trans l13 l14)))
            have hna14 : AtIs ρ14 na (len.den ρ.is + za) := hna.mono (Env.le_trans l6 (Env.le_trans l7 (Env.le_trans l8 (Env.le_trans l9 (Env.le_trans l10 (Env.le_trans l11 (Env.le_trans l12 (Env.le_trans l13 l14))))))))
            have hlf14 := hlf.mono l14
            have hNl' : N.length = (len.den ρ.is).toNat * s := by rw [natMul c3] at hNl; exact_mod_cast hNl
            have hks0 : 0 < ks.length := by rw [hks.1, hzl]; exact hs
            have hzeros : Builtin.zeroCells z'.cells za.toNat = (cellsOf q.1 (List.replicate (za.toNat * s) 0)).toArray := by
              have e1 : z'.cells.size = s := by rw [hzs, hsz]
              unfold Builtin.zeroCells
              rw [e1]
              have := zero_cells (z := z'.cells) (ks := ks) (by rw [hzc Env.nil, hks.2]) hks0 (za.toNat * s)
              rw [e1] at this
              rw [this, hqk]
            have eza : ((za.toNat : Nat) : Int) = za := Int.toNat_of_nonneg c1
            have hrun : ∀ ty, _ := fun ty => run_append_zeros (P := P) (w := w14) (ty := ty) (kk := k) (n := za.toNat) eu eu' ei hz hb (by omega) (b := ρ.at n o) (sLen := (len.den ρ.is).toNat) (sCap := (cap.den ρ.is).toNat) (olds := cellsOf q.1 N) (by rw [cellsOf_len, hNl', hsz]) hcells (by omega) (by omega)
            rw [eza] at hrun
            have hif : (if za.toNat * inf.size = 0 then (#[] : Array Value) else Builtin.zeroCells z'.cells za.toNat) = (cellsOf q.1 (List.replicate (za.toNat * s) 0)).toArray := by
              split
              · rename_i h0
                rw [hsz] at h0
                rw [h0]; simp [cellsOf]
              · exact hzeros
            rw [hif] at hrun
            generalize hgc : grownCap w14 ((len.den ρ.is).toNat + za.toNat) (cap.den ρ.is).toNat elem = gc at hrun
            have hge : (len.den ρ.is).toNat + za.toNat ≤ gc := by rw [← hgc]; exact grownCap_ge _ _ _ _
            have hle : gc ≤ 9223372036854775807 := by
              rw [← hgc]
              have := grownCap_le_maxLen w14 ((len.den ρ.is).toNat + za.toNat) (cap.den ρ.is).toNat elem (by simp only [maxLen]; omega)
              simpa [maxLen] using this
            have happ : cellsOf q.1 (N ++ List.replicate (za.toNat * s) 0) = cellsOf q.1 N ++ cellsOf q.1 (List.replicate (za.toNat * s) 0) := cellsOf_app (.inr (by rw [hNl', Nat.mul_mod, hqs, Nat.mul_zero, Nat.zero_mod]))
            have hlenA : (N ++ List.replicate (za.toNat * s) 0).length = ((len.den ρ.is).toNat + za.toNat) * s := by rw [List.length_append, List.length_replicate, hNl', Nat.add_mul]
            generalize hO : Obj.cells ((cellsOf q.1 N).toArray ++ (cellsOf q.1 (List.replicate (za.toNat * s) 0)).toArray ++ Builtin.zeroCells z'.cells (gc - ((len.den ρ.is).toNat + za.toNat))) elem = ob at hrun
            have G : Grown w14 (w14.drew.alloc ob) elem s (.slice none 0 0) w14.heap.size gc ((len.den ρ.is).toNat + za.toNat) ([] ++ cellsOf q.1 (N ++ List.replicate (za.toNat * s) 0)) := by
              rw [List.nil_append]
              refine ⟨⟨(Builtin.zeroCells z'.cells (gc - ((len.den ρ.is).toNat + za.toNat))).toList, ?_, ?_⟩, by rw [cellsOf_len, hlenA], hge, hle, ⟨rfl, rfl, rfl, by simp, fun k hk _ => heap_alloc_old w14.drew _ k hk⟩, .inl (Nat.le_refl _)⟩
              · rw [← hO]
                have := heap_alloc_new w14.drew (Obj.cells ((cellsOf q.1 N).toArray ++ (cellsOf q.1 (List.replicate (za.toNat * s) 0)).toArray ++ Builtin.zeroCells z'.cells (gc - ((len.den ρ.is).toNat + za.toNat))) elem)
                rw [show w14.heap.size = w14.drew.heap.size from rfl, this, happ]
                congr 2
                apply Array.ext'
                simp
              · rw [cellsOf_len, hlenA, Array.length_toList, size_zeroCells, hzs, hsz, ← Nat.add_mul]
                congr 1
                omega
            refine (anyI_spec (x := (gc : Int)) hna14 (AtIs.c ρ14 _) (by omega) (by omega)).bind ?_
            rintro ca ρ15 h15 w15 l15 ⟨rfl, hp15, hca⟩
            refine (mul_spec (hna14.mono l15) (AtIs.c ρ15 s)).bind ?_
            rintro bl ρ16 h16 w16 l16 ⟨rfl, hp16, hbl⟩
            refine (mul_spec (hca.mono l16) (AtIs.c ρ16 s)).bind ?_
            rintro sz ρ17 h17 w17 l17 ⟨rfl, hp17, hsza⟩
            have L17 := Env.le_trans l15 (Env.le_trans l16 l17)
            have hlf17 := hlf14.mono L17
            have hbl17 := hbl.mono l17
            have le17 := Env.le_app ρ17 ⟨[], [], [(w17.heap.size, 0)]⟩
            have hszv : sz.den (ρ17.app ⟨[], [], [(w17.heap.size, 0)]⟩).is = ((gc * s : Nat) : Int) := by rw [(hsza.mono le17).2]; exact (Int.natCast_mul gc s).symm
            have hgc0 : 0 < gc * s := Nat.mul_pos (by omega) hs
            have hna17 : AtIs ρ17 na (((len.den ρ.is).toNat + za.toNat : Nat) : Int) := by
              have e : ((len.den ρ.is).toNat + za.toNat : Nat) = (len.den ρ.is + za) := by omega
              rw [e]; exact hna14.mono L17
            refine MSpec.rep fun r17 => ?_
            have hbat : (ρ17.app ⟨[], [], [(w17.heap.size, 0)]⟩).b h17.nb = (w17.heap.size, 0) := by rw [← r17.nb]; exact pushB_at ρ17 _
            refine (growTo_core (d := .nil) (v := .slice none 0 0) ⟨(fun n hn => by cases hn), ⟨rfl, rfl⟩, ⟨rfl, rfl⟩, .inl ⟨rfl, .inl rfl⟩⟩ G ⟨.inl ⟨rfl, rfl, rfl⟩, Int.le_refl 0, (fun n hn => by cases hn), (fun n hn => by cases hn)⟩ hna17 (hca.mono (Env.le_trans l16 l17)) (b := .arr q.1 lf bl sz elem) ?_ ?_ ?_).mono ?_
            · simp only [Blk.phys, hszv, hbat]
              rw [if_neg (by omega)]
            · simp only [Blk.inB, Bool.and_eq_true, decide_eq_true_eq]
              exact ⟨hlf17.1, hbl17.1, hsza.1⟩
            · simp only [Blk.holds, hszv, hbat]
              have hLv : (ρ17.app ⟨[], [], [(w17.heap.size, 0)]⟩).ls.getD lf [] = N ++ List.replicate (za.toNat * s) 0 := by
                rw [(hlf17.mono le17).2, natMul c1, Int.toNat_natCast]
              rw [hLv, (hbl17.mono le17).2]
              refine ⟨?_, fun h0 => by omega, fun _ => ⟨by simp, ?_⟩⟩
              · rw [hlenA, natMul (by omega)]
                congr 2
                omega
              · obtain ⟨rest, g1, g2⟩ := G.cells
                exact ⟨rest, by simpa using g1, by rw [List.nil_append] at g2; rw [g2]⟩
            · rintro sv ρ18 h18 w18 l18 ⟨rfl, hs18⟩
              exact ⟨_, hs18, hrun⟩
          exact key r kk hk
        · exact hk.elim
      · exact hk.elim
    · exact hk.elim
  · exact hk.elim
end
end Go.Sx
/- One operation that is no call of a Go function: all of them. -/
set_option linter.unusedVariables false
namespace Go.Sx

def hasRoom : SV → SV → Bool
  | .slc _ _ (.c len) (.c cap), .slc _ _ (.c k) _ => decide (0 ≤ len) && (decide (0 ≤ k) && decide (len + k ≤ cap))
  | _, _ => false
def isIntS : SV → Option At
  | .i _ a => some a
  | _ => none
def lenV (x : SV) : M SV :=
  match x with
  | .vec n len cap => do let a ← vecLen n len cap; pure (.i .i64 a)
  | _ => M.no 470
def isVec : SV → Bool
  | .vec _ _ _ => true
  | _ => false
def isSliceT (P : Program) (t : TypeId) : Bool := match P.underlying t with | some (.slice _) => true | _ => false
def builtinW (P : Program) (b : Builtin) (ts : List TypeId) (xs : List (Option SV)) : Option (M SV) :=
  match b, xs, ts with
  | .len, [some x], [t] => if isVec x && isSliceT P t then some (lenV x) else none
  | .cap, [some x], [t] => if isSliceT P t then some (capM x) else none
  | .append, [some x, some y], [t, t'] => some (match isIntS y with
    | some a => zerosM P t t' x a
    | none => if hasRoom x y then appendM P t t' x y else append2 P t t' x y)
  | .copy, [some x, some y], [t, t'] => some (do
      let x ← asSlc x
      let y ← asSlc y
      copyM P t x y)
  | .clear, [some x], [t] => some (do
      let x ← asSlc x
      clearM P t x)
  | _, _, _ => none
def opW (P : Program) (ro : List (Addr × Value)) (ev : Operand → Option SV) (o : Oper) : M SV :=
  match o.op with
  | .slice t x lo hi mx => with1 (ev x) fun u => sliceV P ev t u lo hi mx
  | .call c => (match c.callee with
    | .builtin b => (match builtinW P b c.argTypes.toList (c.args.toList.map ev) with
      | some m => m
      | none => opZ P ro ev o)
    | _ => opZ P ro ev o)
  | _ => opZ P ro ev o

section
variable {Φ : Phi} {C : Ctx} {ρ : Env} {h : H} {w : World} {P : Program}
theorem isSliceT_ok {t : TypeId} (e : isSliceT P t = true) : ∃ elem, P.underlying t = some (.slice elem) := by
  unfold isSliceT at e
  split at e
  · rename_i el eu; exact ⟨el, eu⟩
  · cases e
theorem lenV_spec {t : TypeId} {x : SV} {v : Value} (ht : isSliceT P t = true) (hx : SvIs ρ x v) : MSpec Φ C (lenV x) ρ h w fun sv ρ' _ w' => ∃ z, SvIs ρ' sv z ∧ ∀ ty, (Builtin.len_ #[t] ty #[v]).run P w = .ok z w' := by
  obtain ⟨elem, eu⟩ := isSliceT_ok ht
  unfold lenV
  split
  · rename_i n len cap
    obtain ⟨hn, hl, hc, rfl⟩ := hx.vec
    refine (vecLen_spec (n := n) hl hc).bind ?_
    rintro a ρ1 h1 w1 l1 ⟨rfl, hp1, h0, ha⟩
    refine MSpec.ret ⟨_, ha.svi, fun ty => ?_⟩
    by_cases hz : cap.den ρ.is = 0
    · simp [Builtin.len_, run_underlying eu, goInt, hz]
    · simp [Builtin.len_, run_underlying eu, goInt, hz, Int.toNat_of_nonneg h0]
  · exact MSpec.no
theorem isIntS_ok {x : SV} {v : Value} {a : At} (hx : SvIs ρ x v) (e : isIntS x = some a) : ∃ k, AtIs ρ a (a.den ρ.is) ∧ v = .int k (a.den ρ.is) := by
  unfold isIntS at e
  split at e
  · rename_i k b
    cases e
    obtain ⟨h1, h2⟩ := hx.int
    exact ⟨k, h1, h2⟩
  · cases e
theorem builtinW_spec {sl : Slots} {a : Act} (r : RepS ρ sl a) {b : Builtin} {ts : List TypeId} {args : List Operand} {m : M SV} (e : builtinW P b ts (args.map (evalO sl)) = some m) :
    MSpec Φ C m ρ h w fun sv ρ' _ w' => ∃ z, SvIs ρ' sv z ∧ ∀ ty cs, (builtin b ts.toArray ty cs (args.map a.eval).toArray).run P w = .ok (.value z) w' := by
  unfold builtinW at e
  generalize hxs : args.map (evalO sl) = xs at e
  have one : ∀ {x : SV}, xs = [some x] → ∃ p, args = [p] ∧ SvIs ρ x (a.eval p) := by
    intro x hx
    subst hx
    match args, hxs with
    | [p], hxs =>
      simp only [List.map_cons, List.map_nil, List.cons.injEq, and_true] at hxs
      exact ⟨p, rfl, evalO_is r hxs⟩
    | [], hxs => cases hxs
    | _ :: _ :: _, hxs => simp at hxs
  have two : ∀ {x y : SV}, xs = [some x, some y] → ∃ p q, args = [p, q] ∧ SvIs ρ x (a.eval p) ∧ SvIs ρ y (a.eval q) := by
    intro x y hx
    subst hx
    match args, hxs with
    | [p, q], hxs =>
      simp only [List.map_cons, List.map_nil, List.cons.injEq, and_true] at hxs
      exact ⟨p, q, rfl, evalO_is r hxs.1, evalO_is r hxs.2⟩
    | [], hxs => cases hxs
    | [_], hxs => simp at hxs
    | _ :: _ :: _ :: _, hxs => simp at hxs
  split at e
  · rename_i x t
    split at e
    · rename_i hc
      cases e
      simp only [Bool.and_eq_true] at hc
      obtain ⟨p, rfl, hx⟩ := one rfl
      refine (lenV_spec (P := P) hc.2 hx).mono ?_
      rintro sv ρ' h' w' l ⟨z, hz, hr⟩
      exact ⟨z, hz, fun ty cs => by simp [builtin, hr]⟩
    · cases e
  · rename_i x t
    split at e
    · rename_i hc
      cases e
      obtain ⟨p, rfl, hx⟩ := one rfl
      obtain ⟨el, eu⟩ := isSliceT_ok hc
      refine (capM_spec (P := P) (ty := 0) eu hx).mono ?_
      rintro sv ρ' h' w' l ⟨rfl, hp, z, hz, hr⟩
      exact ⟨z, hz, fun ty cs => by
        have e : Builtin.cap_ #[t] ty #[a.eval p] = Builtin.cap_ #[t] 0 #[a.eval p] := rfl
        simp [builtin, e, hr w']⟩
    · cases e
  · rename_i x y t t'
    cases e
    obtain ⟨p, q, rfl, hx, hy⟩ := two rfl
    split
    · rename_i at_ ea
      obtain ⟨k, ha, hv⟩ := isIntS_ok hy ea
      refine (zerosM_spec (P := P) (t := t) (t' := t') (k := k) hx ha).mono ?_
      rintro sv ρ' h' w' l ⟨z, hz, hr⟩
      exact ⟨z, hz, fun ty cs => by simp [builtin, hv, hr]⟩
    · split
      · refine (appendM_spec (P := P) (t := t) (t' := t') (ty := 0) hx hy).mono ?_
        rintro sv ρ' h' w' l ⟨z, hz, hr⟩
        exact ⟨z, hz, fun ty cs => by
          have e : Builtin.append_ #[t, t'] ty #[a.eval p, a.eval q] = Builtin.append_ #[t, t'] 0 #[a.eval p, a.eval q] := rfl
          simp [builtin, e, hr]⟩
      · refine (append2_spec (P := P) (t := t) (t' := t') hx hy).mono ?_
        rintro sv ρ' h' w' l ⟨z, hz, hr⟩
        exact ⟨z, hz, fun ty cs => by simp [builtin, hr]⟩
  · rename_i x y t t'
    cases e
    obtain ⟨p, q, rfl, hx, hy⟩ := two rfl
    refine (asSlc_spec hx).bind ?_
    rintro x' ρ1 h1 w1 l1 ⟨rfl, hp1, hx'⟩
    refine (asSlc_spec (hy.mono l1)).bind ?_
    rintro y' ρ2 h2 w2 l2 ⟨rfl, hp2, hy'⟩
    refine (copyM_spec (P := P) (t := t) (t' := t') (hx'.mono l2) hy').mono ?_
    rintro sv ρ' h' w' l ⟨z, hz, hr⟩
    exact ⟨z, hz, fun ty cs => by simp [builtin, hr]⟩
  · rename_i x t
    cases e
    obtain ⟨p, rfl, hx⟩ := one rfl
    refine (asSlc_spec hx).bind ?_
    rintro x' ρ1 h1 w1 l1 ⟨rfl, hp1, hx'⟩
    refine (clearM_spec (P := P) (t := t) hx').mono ?_
    rintro sv ρ' h' w' l ⟨z, hz, hr⟩
    exact ⟨z, hz, fun ty cs => by simp [builtin, hr]⟩
  · cases e
theorem opW_spec {ro : List (Addr × Value)} (hro : RoOk C ro) {sl : Slots} {a : Act} (r : RepS ρ sl a) (o : Oper) :
    MSpec Φ C (opW P ro (evalO sl) o) ρ h w (OpDoes P a.eval o w) := by
  unfold opW
  split
  · rename_i t x lo hi mx ho
    refine (with1_spec (fun y hy => evalO_is r hy) fun y hy => sliceV_spec (P := P) (w := w) (h := h) r hy lo hi mx).mono ?_
    rintro sv ρ1 h1 w1 l ⟨rfl, _, v, hv, hr⟩
    refine ⟨v, hv, .inl ?_⟩
    obtain ⟨dst, op, type, pos, after, guard⟩ := o
    simp only at ho
    subst ho
    simp [execOp, hr]
  · rename_i c ho
    split
    · rename_i b hb
      split
      · rename_i m em
        refine (builtinW_spec (P := P) (w := w) (h := h) r em).mono ?_
        rintro sv ρ1 h1 w1 l ⟨z, hz, hr⟩
        refine ⟨z, hz, .inl ?_⟩
        obtain ⟨dst, op, type, pos, after, guard⟩ := o
        simp only at ho
        subst ho
        obtain ⟨callee, args, argTypes⟩ := c
        simp only at hb
        subst hb
        have e2 : (args.toList.map a.eval).toArray = args.map a.eval := by apply Array.ext'; simp
        have hr' : ∀ ty cs, (builtin b argTypes ty cs (args.map a.eval)).run P w = .ok (.value z) w1 := fun ty cs => by
          have := hr ty cs
          rw [e2] at this
          simpa using this
        simp [execOp, resolve, invoke, hr']
      · exact opZ_spec hro r o
    · exact opZ_spec hro r o
  · exact opZ_spec hro r o
end
end Go.Sx
