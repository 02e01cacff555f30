/- errors.Is and errors.As ask internal/reflectlite: what it answers at pointer types. -/
import Derived.Test.YthjfkblnbecjgaaGreatDoorSxY
import Derived.RowKitTokens
import Derived.Laws.Externs
set_option linter.unusedVariables false
namespace Go.Sx
open Go.Extern

/-- What is handed to a method of a type: its handle, its rtype, that as a Type. -/
inductive RArg where
  | h (t : TypeId)
  | a (t : TypeId)
  | i (t : TypeId)
deriving DecidableEq
inductive RRes where
  | b (x : Bool)
  | k (n : Int)
  | i (t : TypeId)
structure RRow where
  f : FuncId
  args : List RArg
  res : RRes
structure RD where
  fTypeOf : FuncId
  fValueOf : FuncId
  fVType : FuncId
  fIsNil : FuncId
  fVElem : FuncId
  fSet : FuncId
  R : TypeId
  G : Nat
  /-- Types whose values are pointers; and those that point to such. -/
  ptrs : List TypeId
  pptrs : List (TypeId × TypeId)
  sets : List TypeId
  rows : List RRow

def hnd (d : RD) (t : TypeId) : Value := .pointer (some ⟨d.G, t, none⟩)
def RArg.den (d : RD) : RArg → Value
  | .h t => hnd d t
  | .a t => .agg #[hnd d t]
  | .i t => .iface d.R (.agg #[hnd d t])
def RRes.den (d : RD) : RRes → Value
  | .b x => .bool x
  | .k n => .int .u8 n
  | .i t => .iface d.R (.agg #[hnd d t])
def hS (d : RD) (t : TypeId) : SV := .raw (hnd d t)
def RRes.sv (d : RD) : RRes → SV
  | .b x => .b (.c (b2i x))
  | .k n => .i .u8 (.c n)
  | .i t => .iface d.R (.agg [hS d t])
/-- Which type's handle it is. -/
def hOf (d : RD) : SV → Option TypeId
  | .raw (.pointer (some ⟨b, o, none⟩)) => if b = d.G then some o else none
  | _ => none
def rarg (d : RD) : SV → Option RArg
  | .agg [x] => (hOf d x).map .a
  | .iface r (.agg [x]) => if r = d.R then (hOf d x).map .i else none
  | .raw (.iface r (.agg ⟨[.pointer (some ⟨b, o, none⟩)]⟩)) => if r = d.R ∧ b = d.G then some (.i o) else none
  | x => (hOf d x).map .h
def rargs (d : RD) : List SV → Option (List RArg)
  | [] => some []
  | x :: xs => match rarg d x, rargs d xs with
    | some a, some as => some (a :: as)
    | _, _ => none

def rowRun (d : RD) (f : FuncId) (args : List SV) : M SV :=
  match rargs d args with
  | some as => (match d.rows.find? (fun r => r.f == f && decide (r.args = as)) with
    | some r => pure (r.res.sv d)
    | none => M.no 310)
  | none => M.no 311
def typeOfRun (d : RD) (args : List SV) : M SV :=
  match args with
  | [.iface t _] => if d.ptrs.contains t then pure (.iface d.R (.agg [hS d t])) else M.no 312
  | _ => M.no 313
def isPtrS : SV → Bool
  | .ptr _ _ => true
  | .nilp => true
  | _ => false
def valueOfRun (d : RD) (args : List SV) : M SV :=
  match args with
  | [.iface t x] => if d.ptrs.contains t && isPtrS x then (do
      let p ← newBlk [x] t
      pure (.agg [hS d t, p, .i .u64 (.c 150)])) else M.no 314
  | _ => M.no 315
def vTypeRun (d : RD) (args : List SV) : M SV :=
  match args with
  | [.agg [x, .ptr _ _, .i .u64 (.c 150)]] => (match hOf d x with
    | some t => if d.ptrs.contains t then pure (.iface d.R (.agg [hS d t])) else M.no 316
    | none => M.no 317)
  | _ => M.no 318
def isNilRun (P : Program) (ro : List (Addr × Value)) (d : RD) (args : List SV) : M SV :=
  match args with
  | [.agg [x, .ptr n o, .i .u64 (.c 150)]] => (match hOf d x with
    | some t => if (d.pptrs.any fun q => q.1 == t) then (do
        let y ← ldVar P ro t (.ptr n o)
        match y with
        | .ptr _ _ => pure (.b (.c 0))
        | _ => M.no 319) else M.no 320
    | none => M.no 321)
  | _ => M.no 322
def vElemRun (P : Program) (ro : List (Addr × Value)) (d : RD) (args : List SV) : M SV :=
  match args with
  | [.agg [x, .ptr n o, .i .u64 (.c 150)]] => (match hOf d x with
    | some t => (match d.pptrs.find? (fun q => q.1 == t) with
      | some q => (do
        let y ← ldVar P ro t (.ptr n o)
        match y with
        | .ptr m p => pure (.agg [hS d q.2, .ptr m p, .i .u64 (.c 406)])
        | _ => M.no 323)
      | none => M.no 324)
    | none => M.no 325)
  | _ => M.no 326
def setRun (P : Program) (ro : List (Addr × Value)) (d : RD) (args : List SV) : M SV :=
  match args with
  | [.agg [x, .ptr n o, .i .u64 (.c 406)], .agg [y, .ptr m p, .i .u64 (.c 150)]] => (match hOf d x, hOf d y with
    | some t, some t' => if t = t' ∧ d.sets.contains t = true then (do
        let z ← ldVar P ro t (.ptr m p)
        stVar P t (.ptr n o) z
        pure (.tup [])) else M.no 327
    | _, _ => M.no 328)
  | _ => M.no 329

def RD.specs (P : Program) (ro : List (Addr × Value)) (d : RD) : List Spec :=
  [⟨d.fTypeOf, typeOfRun d⟩, ⟨d.fValueOf, valueOfRun d⟩, ⟨d.fVType, vTypeRun d⟩, ⟨d.fIsNil, isNilRun P ro d⟩, ⟨d.fVElem, vElemRun P ro d⟩, ⟨d.fSet, setRun P ro d⟩] ++
  d.rows.map fun r => ⟨r.f, rowRun d r.f⟩

/-- What must be shown of the dump. -/
structure RD.Ok (P : Program) (d : RD) : Prop where
  typeOf : ∀ t ∈ d.ptrs, ∀ (v : Value) (w : World), (callFunc d.fTypeOf #[.iface t v]).run P w = .ok (.value (.iface d.R (.agg #[hnd d t]))) w
  valueOf : ∀ t ∈ d.ptrs, ∀ (a : Option Addr) (w : World), (callFunc d.fValueOf #[.iface t (.pointer a)]).run P w = .ok (.value (.agg #[hnd d t, .pointer (some ⟨w.heap.size, 0, none⟩), .int .u64 150])) (w.alloc (.cells #[.pointer a] t (0, 0)))
  vType : ∀ t ∈ d.ptrs, ∀ (a : Addr) (w : World), (callFunc d.fVType #[.agg #[hnd d t, .pointer (some a), .int .u64 150]]).run P w = .ok (.value (.iface d.R (.agg #[hnd d t]))) w
  isNil : ∀ q ∈ d.pptrs, ∀ (a p : Addr) (w : World), (loadVar q.1 a).run P w = .ok (.pointer (some p)) w → (callFunc d.fIsNil #[.agg #[hnd d q.1, .pointer (some a), .int .u64 150]]).run P w = .ok (.value (.bool false)) w
  vElem : ∀ q ∈ d.pptrs, ∀ (a p : Addr) (w : World), (loadVar q.1 a).run P w = .ok (.pointer (some p)) w →
    (callFunc d.fVElem #[.agg #[hnd d q.1, .pointer (some a), .int .u64 150]]).run P w = .ok (.value (.agg #[hnd d q.2, .pointer (some p), .int .u64 406])) w
  set : ∀ t ∈ d.sets, ∀ (a b : Addr) (v : Value) (w w' : World), (loadVar t b).run P w = .ok v w → (storeVar t a v).run P w = .ok () w' →
    (callFunc d.fSet #[.agg #[hnd d t, .pointer (some a), .int .u64 406], .agg #[hnd d t, .pointer (some b), .int .u64 150]]).run P w = .ok (.value (.tuple #[])) w'
  rows : ∀ r ∈ d.rows, ∀ w : World, (callFunc r.f (r.args.map (RArg.den d)).toArray).run P w = .ok (.value (r.res.den d)) w

section
variable {Φ : Phi} {C : Ctx} {ρ : Env} {h : H} {w : World} {P : Program} {ro : List (Addr × Value)} {d : RD}

def CallDoes (P : Program) (f : FuncId) (vs : Array Value) (w : World) : SV → Env → H → World → Prop := fun sv ρ' _ w' => ∃ v, SvIs ρ' sv v ∧ (callFunc f vs).run P w = .ok (.value v) w'
theorem Spec.ok_of {s : Spec} (hs : ∀ (Φ : Phi) (C : Ctx) (ρ : Env) (h : H) (w : World) (args : List SV), RoOk C ro → SV.oks ρ.is.length ρ.bs.length args = true →
    MSpec Φ C (s.run args) ρ h w (CallDoes P s.f (SV.dens ρ args).toArray w)) : s.Ok P ro := by
  intro Φ C ρ h w args k K hro hok r hd hk
  obtain ⟨sv, ρ', h', w', l, r', d', v, hv, hr⟩ := hs Φ C ρ h w args hro hok r k hd
  unfold Invokes
  rw [hr]
  exact hk sv ρ' h' v w' l r' hv d'

theorem hOf_den {x : SV} {t : TypeId} (e : hOf d x = some t) (ρ : Env) : SV.den ρ x = hnd d t := by
  unfold hOf at e
  split at e
  · split at e
    · rename_i hb; cases e; subst hb; rfl
    · cases e
  · cases e
theorem hS_is (ρ : Env) (t : TypeId) : SvIs ρ (hS d t) (hnd d t) := ⟨rfl, rfl⟩
theorem rarg_den {x : SV} {a : RArg} (e : rarg d x = some a) (ρ : Env) : SV.den ρ x = a.den d := by
  unfold rarg at e
  split at e
  · rename_i y
    cases hh : hOf d y with
    | none => rw [hh] at e; cases e
    | some t => rw [hh] at e; cases e; simp [SV.den, SV.dens, hOf_den hh ρ, RArg.den]
  · rename_i r y
    split at e
    · rename_i hr
      cases hh : hOf d y with
      | none => rw [hh] at e; cases e
      | some t => rw [hh] at e; cases e; simp [SV.den, SV.dens, hOf_den hh ρ, RArg.den, hr]
    · cases e
  · split at e
    · rename_i hr; cases e; simp [SV.den, RArg.den, hnd, hr.1, hr.2]
    · cases e
  · cases hh : hOf d x with
    | none => rw [hh] at e; cases e
    | some t => rw [hh] at e; cases e; exact hOf_den hh ρ
theorem rargs_den : ∀ {xs : List SV} {as : List RArg}, rargs d xs = some as → ∀ ρ : Env, SV.dens ρ xs = as.map (RArg.den d)
  | [], as, e, ρ => by cases e; rfl
  | x :: xs, as, e, ρ => by
    unfold rargs at e
    split at e
    · rename_i a bs ha hb
      cases e
      simp only [SV.dens, List.map_cons, rarg_den ha ρ, rargs_den hb ρ]
    · cases e
theorem rres_is (ρ : Env) (r : RRes) : SvIs ρ (r.sv d) (r.den d) := by
  cases r with
  | b x => exact (AtIs.c ρ (b2i x)).svb
  | k n => exact ⟨rfl, rfl⟩
  | i t => exact ⟨rfl, rfl⟩

theorem one_is {x : SV} {v : Value} {xs : List SV} (h : xs = [x]) (hok : SV.oks ρ.is.length ρ.bs.length xs = true) : SvIs ρ x (SV.den ρ x) ∧ (SV.dens ρ xs).toArray = #[SV.den ρ x] := by
  subst h
  simp only [SV.oks, Bool.and_true] at hok
  exact ⟨⟨hok, rfl⟩, rfl⟩
theorem iface_ptr_tag {ρ : Env} {x : SV} (e : isPtrS x = true) : ∃ a, SV.den ρ x = .pointer a := by
  cases x <;> simp [isPtrS] at e
  · exact ⟨none, rfl⟩
  · exact ⟨_, rfl⟩

theorem RD.specs_ok (D : d.Ok P) : ∀ s ∈ d.specs P ro, s.Ok P ro := by
  intro s hs
  simp only [RD.specs, List.cons_append, List.nil_append, List.mem_cons, List.mem_map] at hs
  rcases hs with rfl | rfl | rfl | rfl | rfl | rfl | ⟨r, hr, rfl⟩
  · refine Spec.ok_of fun Φ C ρ h w args hro hok => ?_
    simp only [typeOfRun]
    split
    · rename_i t x
      split
      · rename_i ht
        refine MSpec.ret ⟨_, ⟨rfl, rfl⟩, ?_⟩
        have := D.typeOf t (by simpa using ht) (SV.den ρ x) w
        simpa [SV.dens, SV.den, hS] using this
      · exact MSpec.no
    · exact MSpec.no
  · refine Spec.ok_of fun Φ C ρ h w args hro hok => ?_
    simp only [valueOfRun]
    split
    · rename_i t x
      split
      · rename_i ht
        simp only [Bool.and_eq_true] at ht
        obtain ⟨a, ha⟩ := iface_ptr_tag (ρ := ρ) ht.2
        have hx : SV.oks ρ.is.length ρ.bs.length [x] = true := by simpa [SV.oks, SV.ok] using hok
        refine (newBlk_spec hx).bind ?_
        rintro p ρ1 h1 w1 l1 ⟨hp, rfl⟩
        refine MSpec.ret ⟨_, ⟨?_, rfl⟩, ?_⟩
        · simp [SV.ok, SV.oks, hS, hp.1, At.lt]
        · have := D.valueOf t (by simpa using ht.1) a w
          simp only [SV.dens, SV.den, ha, hp.2, hS]
          simpa [SV.dens, SV.den, ha, At.den] using this
      · exact MSpec.no
    · exact MSpec.no
  · refine Spec.ok_of fun Φ C ρ h w args hro hok => ?_
    simp only [vTypeRun]
    split
    · rename_i x n o
      split
      · rename_i t ht
        split
        · rename_i hc
          refine MSpec.ret ⟨_, ⟨rfl, rfl⟩, ?_⟩
          have := D.vType t (by simpa using hc) (ρ.at n o) w
          simpa [SV.dens, SV.den, hS, hOf_den ht ρ, At.den] using this
        · exact MSpec.no
      · exact MSpec.no
    · exact MSpec.no
  · refine Spec.ok_of fun Φ C ρ h w args hro hok => ?_
    simp only [isNilRun]
    split
    · rename_i x n o
      split
      · rename_i t ht
        split
        · rename_i hc
          have hp : SvIs ρ (.ptr n o) (.pointer (some (ρ.at n o))) := by
            simp only [SV.oks, SV.ok, Bool.and_true, Bool.and_eq_true] at hok
            exact ⟨by simp only [SV.ok, Bool.and_eq_true]; exact hok.2.1, rfl⟩
          refine (ldVar_spec (P := P) hro hp).bind ?_
          rintro y ρ1 h1 w1 l1 ⟨rfl, _, v, hv, hr⟩
          split
          · rename_i m p
            obtain ⟨_, _, rfl⟩ := hv.ptr
            refine MSpec.ret ⟨_, (show AtIs ρ1 (.c 0) (b2i false) from AtIs.c ρ1 0).svb, ?_⟩
            obtain ⟨q, hq, hqt⟩ := List.any_eq_true.1 hc
            have hqt' : q.1 = t := by simpa using hqt
            have hr' : (loadVar q.1 (ρ.at n o)).run P w1 = .ok (.pointer (some (ρ1.at m p))) w1 := by
              rw [hqt']; simpa [Instr.loadAt, Instr.sureAddr, asAddr] using hr
            have := D.isNil q hq (ρ.at n o) _ w1 hr'
            rw [hqt'] at this
            simpa [SV.dens, SV.den, hS, hOf_den ht ρ, At.den] using this
          · exact MSpec.no
        · exact MSpec.no
      · exact MSpec.no
    · exact MSpec.no
  · refine Spec.ok_of fun Φ C ρ h w args hro hok => ?_
    simp only [vElemRun]
    split
    · rename_i x n o
      split
      · rename_i t ht
        split
        · rename_i q hq
          have hp : SvIs ρ (.ptr n o) (.pointer (some (ρ.at n o))) := by
            simp only [SV.oks, SV.ok, Bool.and_true, Bool.and_eq_true] at hok
            exact ⟨by simp only [SV.ok, Bool.and_eq_true]; exact hok.2.1, rfl⟩
          refine (ldVar_spec (P := P) hro hp).bind ?_
          rintro y ρ1 h1 w1 l1 ⟨rfl, _, v, hv, hr⟩
          split
          · rename_i m p
            have hv' := hv.1
            obtain ⟨_, _, rfl⟩ := hv.ptr
            refine MSpec.ret ⟨_, ⟨?_, rfl⟩, ?_⟩
            · simp only [SV.ok, SV.oks, hS, Bool.and_true, Bool.true_and, At.lt] at hv' ⊢; exact hv'
            have hqt' : q.1 = t := by simpa using List.find?_some hq
            have hr' : (loadVar q.1 (ρ.at n o)).run P w1 = .ok (.pointer (some (ρ1.at m p))) w1 := by
              rw [hqt']; simpa [Instr.loadAt, Instr.sureAddr, asAddr] using hr
            have := D.vElem q (List.mem_of_find?_eq_some hq) (ρ.at n o) _ w1 hr'
            rw [hqt'] at this
            simpa [SV.dens, SV.den, hS, hOf_den ht ρ, At.den] using this
          · exact MSpec.no
        · exact MSpec.no
      · exact MSpec.no
    · exact MSpec.no
  · refine Spec.ok_of fun Φ C ρ h w args hro hok => ?_
    simp only [setRun]
    split
    · rename_i x n o y m p
      split
      · rename_i t t' ht ht'
        split
        · rename_i hc
          obtain ⟨rfl, hc⟩ := hc
          simp only [SV.oks, SV.ok, Bool.and_true, Bool.and_eq_true] at hok
          have hp : SvIs ρ (.ptr m p) (.pointer (some (ρ.at m p))) := ⟨by simp only [SV.ok, Bool.and_eq_true]; exact hok.2.2.1, rfl⟩
          have hq : SvIs ρ (.ptr n o) (.pointer (some (ρ.at n o))) := ⟨by simp only [SV.ok, Bool.and_eq_true]; exact hok.1.2.1, rfl⟩
          refine (ldVar_spec (P := P) hro hp).bind ?_
          rintro z ρ1 h1 w1 l1 ⟨rfl, _, v, hv, hr⟩
          refine (stVar_spec (P := P) (hq.mono l1) hv).bind ?_
          rintro _ ρ2 h2 w2 l2 hs
          refine MSpec.ret ⟨.tuple #[], ⟨rfl, rfl⟩, ?_⟩
          have h1 : (loadVar t (ρ.at m p)).run P w1 = .ok v w1 := by simpa [Instr.loadAt, Instr.sureAddr, asAddr] using hr
          have h2 : (storeVar t (ρ.at n o) v).run P w1 = .ok () w2 := by simpa [DoesU, Instr.storeAt, Instr.sureAddr, asAddr] using hs
          have := D.set t (by simpa using hc) _ _ v w1 w2 h1 h2
          simpa [SV.dens, SV.den, hS, hOf_den ht ρ, hOf_den ht' ρ, At.den] using this
        · exact MSpec.no
      · exact MSpec.no
    · exact MSpec.no
  · refine Spec.ok_of fun Φ C ρ h w args hro hok => ?_
    simp only [rowRun]
    split
    · rename_i as has
      split
      · rename_i q hq
        have hm := List.mem_of_find?_eq_some hq
        have hf := List.find?_some hq
        simp only [Bool.and_eq_true, beq_iff_eq, decide_eq_true_eq] at hf
        refine MSpec.ret ⟨_, rres_is ρ q.res, ?_⟩
        have := D.rows q hm w
        rw [hf.1, hf.2] at this
        rw [rargs_den has ρ]
        exact this
      · exact MSpec.no
    · exact MSpec.no
end
end Go.Sx
