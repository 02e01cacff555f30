/- The executor: texts of it, one behind another. -/
import Derived.Test.YtpmgfdakljjlaaaGreatDoorSxM6
import Derived.RowKitTokens
import Derived.Laws.Externs
import Derived.ProofKit
import Derived.Carry
import Derived.ChangeVars
import Derived.LaidLaws
import Derived.LaidHandle
import Derived.Stop.Joined
import Derived.OpenShut
import Derived.ChangeSlices
import Derived.DataElems
import Derived.ChangeShapes
set_option linter.unusedVariables false
set_option linter.constructorNameAsVariable false
/- errors.Is and errors.As ask internal/reflectlite: what it answers at pointer types. -/
set_option linter.unusedVariables false
namespace Go.Sx
open Go.Extern

/-- What is handed to a method of a type: its handle, its rtype, that as a Type. -/
inductive RArg where
  | h (t : TypeId)
  | a (t : TypeId)
  | i (t : TypeId)
deriving DecidableEq
inductive RRes where
  | b (x : Bool)
  | k (n : Int)
  | i (t : TypeId)
structure RRow where
  f : FuncId
  args : List RArg
  res : RRes
structure RD where
  fTypeOf : FuncId
  fValueOf : FuncId
  fVType : FuncId
  fIsNil : FuncId
  fVElem : FuncId
  fSet : FuncId
  R : TypeId
  G : Nat
  /-- Types whose values are pointers; and those that point to such. -/
  ptrs : List TypeId
  pptrs : List (TypeId × TypeId)
  sets : List TypeId
  rows : List RRow

def hnd (d : RD) (t : TypeId) : Value := .pointer (some ⟨d.G, t, none⟩)
def RArg.den (d : RD) : RArg → Value
  | .h t => hnd d t
  | .a t => .agg #[hnd d t]
  | .i t => .iface d.R (.agg #[hnd d t])
def RRes.den (d : RD) : RRes → Value
  | .b x => .bool x
  | .k n => .int .u8 n
  | .i t => .iface d.R (.agg #[hnd d t])
def hS (d : RD) (t : TypeId) : SV := .raw (hnd d t)
def RRes.sv (d : RD) : RRes → SV
  | .b x => .b (.c (b2i x))
  | .k n => .i .u8 (.c n)
  | .i t => .iface d.R (.agg [hS d t])
/-- Which type's handle it is. -/
def hOf (d : RD) : SV → Option TypeId
  | .raw (.pointer (some ⟨b, o, none⟩)) => if b = d.G then some o else none
  | _ => none
def rarg (d : RD) : SV → Option RArg
  | .agg [x] => (hOf d x).map .a
  | .iface r (.agg [x]) => if r = d.R then (hOf d x).map .i else none
  | .raw (.iface r (.agg ⟨[.pointer (some ⟨b, o, none⟩)]⟩)) => if r = d.R ∧ b = d.G then some (.i o) else none
  | x => (hOf d x).map .h
def rargs (d : RD) : List SV → Option (List RArg)
  | [] => some []
  | x :: xs => match rarg d x, rargs d xs with
    | some a, some as => some (a :: as)
    | _, _ => none

def rowRun (d : RD) (f : FuncId) (args : List SV) : M SV :=
  match rargs d args with
  | some as => (match d.rows.find? (fun r => r.f == f && decide (r.args = as)) with
    | some r => pure (r.res.sv d)
    | none => M.no 310)
  | none => M.no 311
def typeOfRun (d : RD) (args : List SV) : M SV :=
  match args with
  | [.iface t _] => if d.ptrs.contains t then pure (.iface d.R (.agg [hS d t])) else M.no 312
  | _ => M.no 313
def isPtrS : SV → Bool
  | .ptr _ _ => true
  | .nilp => true
  | _ => false
def valueOfRun (d : RD) (args : List SV) : M SV :=
  match args with
  | [.iface t x] => if d.ptrs.contains t && isPtrS x then (do
      let p ← newBlk [x] t
      pure (.agg [hS d t, p, .i .u64 (.c 150)])) else M.no 314
  | _ => M.no 315
def vTypeRun (d : RD) (args : List SV) : M SV :=
  match args with
  | [.agg [x, .ptr _ _, .i .u64 (.c 150)]] => (match hOf d x with
    | some t => if d.ptrs.contains t then pure (.iface d.R (.agg [hS d t])) else M.no 316
    | none => M.no 317)
  | _ => M.no 318
def isNilRun (P : Program) (ro : List (Addr × Value)) (d : RD) (args : List SV) : M SV :=
  match args with
  | [.agg [x, .ptr n o, .i .u64 (.c 150)]] => (match hOf d x with
    | some t => if (d.pptrs.any fun q => q.1 == t) then (do
        let y ← ldVar P ro t (.ptr n o)
        match y with
        | .ptr _ _ => pure (.b (.c 0))
        | _ => M.no 319) else M.no 320
    | none => M.no 321)
  | _ => M.no 322
def vElemRun (P : Program) (ro : List (Addr × Value)) (d : RD) (args : List SV) : M SV :=
  match args with
  | [.agg [x, .ptr n o, .i .u64 (.c 150)]] => (match hOf d x with
    | some t => (match d.pptrs.find? (fun q => q.1 == t) with
      | some q => (do
        let y ← ldVar P ro t (.ptr n o)
        match y with
        | .ptr m p => pure (.agg [hS d q.2, .ptr m p, .i .u64 (.c 406)])
        | _ => M.no 323)
      | none => M.no 324)
    | none => M.no 325)
  | _ => M.no 326
def setRun (P : Program) (ro : List (Addr × Value)) (d : RD) (args : List SV) : M SV :=
  match args with
  | [.agg [x, .ptr n o, .i .u64 (.c 406)], .agg [y, .ptr m p, .i .u64 (.c 150)]] => (match hOf d x, hOf d y with
    | some t, some t' => if t = t' ∧ d.sets.contains t = true then (do
        let z ← ldVar P ro t (.ptr m p)
        stVar P t (.ptr n o) z
        pure (.tup [])) else M.no 327
    | _, _ => M.no 328)
  | _ => M.no 329

def RD.specs (P : Program) (ro : List (Addr × Value)) (d : RD) : List Spec :=
  [⟨d.fTypeOf, typeOfRun d⟩, ⟨d.fValueOf, valueOfRun d⟩, ⟨d.fVType, vTypeRun d⟩, ⟨d.fIsNil, isNilRun P ro d⟩, ⟨d.fVElem, vElemRun P ro d⟩, ⟨d.fSet, setRun P ro d⟩] ++
  d.rows.map fun r => ⟨r.f, rowRun d r.f⟩

/-- What must be shown of the dump. -/
structure RD.Ok (P : Program) (d : RD) : Prop where
  typeOf : ∀ t ∈ d.ptrs, ∀ (v : Value) (w : World), (callFunc d.fTypeOf #[.iface t v]).run P w = .ok (.value (.iface d.R (.agg #[hnd d t]))) w
  valueOf : ∀ t ∈ d.ptrs, ∀ (a : Option Addr) (w : World), (callFunc d.fValueOf #[.iface t (.pointer a)]).run P w = .ok (.value (.agg #[hnd d t, .pointer (some ⟨w.heap.size, 0, none⟩), .int .u64 150])) (w.alloc (.cells #[.pointer a] t (0, 0)))
  vType : ∀ t ∈ d.ptrs, ∀ (a : Addr) (w : World), (callFunc d.fVType #[.agg #[hnd d t, .pointer (some a), .int .u64 150]]).run P w = .ok (.value (.iface d.R (.agg #[hnd d t]))) w
  isNil : ∀ q ∈ d.pptrs, ∀ (a p : Addr) (w : World), (loadVar q.1 a).run P w = .ok (.pointer (some p)) w → (callFunc d.fIsNil #[.agg #[hnd d q.1, .pointer (some a), .int .u64 150]]).run P w = .ok (.value (.bool false)) w
  vElem : ∀ q ∈ d.pptrs, ∀ (a p : Addr) (w : World), (loadVar q.1 a).run P w = .ok (.pointer (some p)) w →
    (callFunc d.fVElem #[.agg #[hnd d q.1, .pointer (some a), .int .u64 150]]).run P w = .ok (.value (.agg #[hnd d q.2, .pointer (some p), .int .u64 406])) w
  set : ∀ t ∈ d.sets, ∀ (a b : Addr) (v : Value) (w w' : World), (loadVar t b).run P w = .ok v w → (storeVar t a v).run P w = .ok () w' →
    (callFunc d.fSet #[.agg #[hnd d t, .pointer (some a), .int .u64 406], .agg #[hnd d t, .pointer (some b), .int .u64 150]]).run P w = .ok (.value (.tuple #[])) w'
  rows : ∀ r ∈ d.rows, ∀ w : World, (callFunc r.f (r.args.map (RArg.den d)).toArray).run P w = .ok (.value (r.res.den d)) w

section
variable {Φ : Phi} {C : Ctx} {ρ : Env} {h : H} {w : World} {P : Program} {ro : List (Addr × Value)} {d : RD}

def CallDoes (P : Program) (f : FuncId) (vs : Array Value) (w : World) : SV → Env → H → World → Prop := fun sv ρ' _ w' => ∃ v, SvIs ρ' sv v ∧ (callFunc f vs).run P w = .ok (.value v) w'
theorem Spec.ok_of {s : Spec} (hs : ∀ (Φ : Phi) (C : Ctx) (ρ : Env) (h : H) (w : World) (args : List SV), RoOk C ro → SV.oks ρ.is.length ρ.bs.length args = true →
    MSpec Φ C (s.run args) ρ h w (CallDoes P s.f (SV.dens ρ args).toArray w)) : s.Ok P ro := by
  intro Φ C ρ h w args k K hro hok r hd hk
  obtain ⟨sv, ρ', h', w', l, r', d', v, hv, hr⟩ := hs Φ C ρ h w args hro hok r k hd
  unfold Invokes
  rw [hr]
  exact hk sv ρ' h' v w' l r' hv d'

theorem hOf_den {x : SV} {t : TypeId} (e : hOf d x = some t) (ρ : Env) : SV.den ρ x = hnd d t := by
  unfold hOf at e
  split at e
  · split at e
    · rename_i hb; cases e; subst hb; rfl
    · cases e
  · cases e
theorem hS_is (ρ : Env) (t : TypeId) : SvIs ρ (hS d t) (hnd d t) := ⟨rfl, rfl⟩
theorem rarg_den {x : SV} {a : RArg} (e : rarg d x = some a) (ρ : Env) : SV.den ρ x = a.den d := by
  unfold rarg at e
  split at e
  · rename_i y
    cases hh : hOf d y with
    | none => rw [hh] at e; cases e
    | some t => rw [hh] at e; cases e; simp [SV.den, SV.dens, hOf_den hh ρ, RArg.den]
  · rename_i r y
    split at e
    · rename_i hr
      cases hh : hOf d y with
      | none => rw [hh] at e; cases e
      | some t => rw [hh] at e; cases e; simp [SV.den, SV.dens, hOf_den hh ρ, RArg.den, hr]
    · cases e
  · split at e
    · rename_i hr; cases e; simp [SV.den, RArg.den, hnd, hr.1, hr.2]
    · cases e
  · cases hh : hOf d x with
    | none => rw [hh] at e; cases e
    | some t => rw [hh] at e; cases e; exact hOf_den hh ρ
theorem rargs_den : ∀ {xs : List SV} {as : List RArg}, rargs d xs = some as → ∀ ρ : Env, SV.dens ρ xs = as.map (RArg.den d)
  | [], as, e, ρ => by cases e; rfl
  | x :: xs, as, e, ρ => by
    unfold rargs at e
    split at e
    · rename_i a bs ha hb
      cases e
      simp only [SV.dens, List.map_cons, rarg_den ha ρ, rargs_den hb ρ]
    · cases e
theorem rres_is (ρ : Env) (r : RRes) : SvIs ρ (r.sv d) (r.den d) := by
  cases r with
  | b x => exact (AtIs.c ρ (b2i x)).svb
  | k n => exact ⟨rfl, rfl⟩
  | i t => exact ⟨rfl, rfl⟩

theorem one_is {x : SV} {v : Value} {xs : List SV} (h : xs = [x]) (hok : SV.oks ρ.is.length ρ.bs.length xs = true) : SvIs ρ x (SV.den ρ x) ∧ (SV.dens ρ xs).toArray = #[SV.den ρ x] := by
  subst h
  simp only [SV.oks, Bool.and_true] at hok
  exact ⟨⟨hok, rfl⟩, rfl⟩
theorem iface_ptr_tag {ρ : Env} {x : SV} (e : isPtrS x = true) : ∃ a, SV.den ρ x = .pointer a := by
  cases x <;> simp [isPtrS] at e
  · exact ⟨none, rfl⟩
  · exact ⟨_, rfl⟩

theorem RD.specs_ok (D : d.Ok P) : ∀ s ∈ d.specs P ro, s.Ok P ro := by
  intro s hs
  simp only [RD.specs, List.cons_append, List.nil_append, List.mem_cons, List.mem_map] at hs
  rcases hs with rfl | rfl | rfl | rfl | rfl | rfl | ⟨r, hr, rfl⟩
  · refine Spec.ok_of fun Φ C ρ h w args hro hok => ?_
    simp only [typeOfRun]
    split
    · rename_i t x
      split
      · rename_i ht
        refine MSpec.ret ⟨_, ⟨rfl, rfl⟩, ?_⟩
        have := D.typeOf t (by simpa using ht) (SV.den ρ x) w
        simpa [SV.dens, SV.den, hS] using this
      · exact MSpec.no
    · exact MSpec.no
  · refine Spec.ok_of fun Φ C ρ h w args hro hok => ?_
    simp only [valueOfRun]
    split
    · rename_i t x
      split
      · rename_i ht
        simp only [Bool.and_eq_true] at ht
        obtain ⟨a, ha⟩ := iface_ptr_tag (ρ := ρ) ht.2
        have hx : SV.oks ρ.is.length ρ.bs.length [x] = true := by simpa [SV.oks, SV.ok] using hok
        refine (newBlk_spec hx).bind ?_
        rintro p ρ1 h1 w1 l1 ⟨hp, rfl⟩
        refine MSpec.ret ⟨_, ⟨?_, rfl⟩, ?_⟩
        · simp [SV.ok, SV.oks, hS, hp.1, At.lt]
        · have := D.valueOf t (by simpa using ht.1) a w
          simp only [SV.dens, SV.den, ha, hp.2, hS]
          simpa [SV.dens, SV.den, ha, At.den] using this
      · exact MSpec.no
    · exact MSpec.no
  · refine Spec.ok_of fun Φ C ρ h w args hro hok => ?_
    simp only [vTypeRun]
    split
    · rename_i x n o
      split
      · rename_i t ht
        split
        · rename_i hc
          refine MSpec.ret ⟨_, ⟨rfl, rfl⟩, ?_⟩
          have := D.vType t (by simpa using hc) (ρ.at n o) w
          simpa [SV.dens, SV.den, hS, hOf_den ht ρ, At.den] using this
        · exact MSpec.no
      · exact MSpec.no
    · exact MSpec.no
  · refine Spec.ok_of fun Φ C ρ h w args hro hok => ?_
    simp only [isNilRun]
    split
    · rename_i x n o
      split
      · rename_i t ht
        split
        · rename_i hc
          have hp : SvIs ρ (.ptr n o) (.pointer (some (ρ.at n o))) := by
            simp only [SV.oks, SV.ok, Bool.and_true, Bool.and_eq_true] at hok
            exact ⟨by simp only [SV.ok, Bool.and_eq_true]; exact hok.2.1, rfl⟩
          refine (ldVar_spec (P := P) hro hp).bind ?_
          rintro y ρ1 h1 w1 l1 ⟨rfl, _, v, hv, hr⟩
          split
          · rename_i m p
            obtain ⟨_, _, rfl⟩ := hv.ptr
            refine MSpec.ret ⟨_, (show AtIs ρ1 (.c 0) (b2i false) from AtIs.c ρ1 0).svb, ?_⟩
            obtain ⟨q, hq, hqt⟩ := List.any_eq_true.1 hc
            have hqt' : q.1 = t := by simpa using hqt
            have hr' : (loadVar q.1 (ρ.at n o)).run P w1 = .ok (.pointer (some (ρ1.at m p))) w1 := by
              rw [hqt']; simpa [Instr.loadAt, Instr.sureAddr, asAddr] using hr
            have := D.isNil q hq (ρ.at n o) _ w1 hr'
            rw [hqt'] at this
            simpa [SV.dens, SV.den, hS, hOf_den ht ρ, At.den] using this
          · exact MSpec.no
        · exact MSpec.no
      · exact MSpec.no
    · exact MSpec.no
  · refine Spec.ok_of fun Φ C ρ h w args hro hok => ?_
    simp only [vElemRun]
    split
    · rename_i x n o
      split
      · rename_i t ht
        split
        · rename_i q hq
          have hp : SvIs ρ (.ptr n o) (.pointer (some (ρ.at n o))) := by
            simp only [SV.oks, SV.ok, Bool.and_true, Bool.and_eq_true] at hok
            exact ⟨by simp only [SV.ok, Bool.and_eq_true]; exact hok.2.1, rfl⟩
          refine (ldVar_spec (P := P) hro hp).bind ?_
          rintro y ρ1 h1 w1 l1 ⟨rfl, _, v, hv, hr⟩
          split
          · rename_i m p
            have hv' := hv.1
            obtain ⟨_, _, rfl⟩ := hv.ptr
            refine MSpec.ret ⟨_, ⟨?_, rfl⟩, ?_⟩
            · simp only [SV.ok, SV.oks, hS, Bool.and_true, Bool.true_and, At.lt] at hv' ⊢; exact hv'
            have hqt' : q.1 = t := by simpa using List.find?_some hq
            have hr' : (loadVar q.1 (ρ.at n o)).run P w1 = .ok (.pointer (some (ρ1.at m p))) w1 := by
              rw [hqt']; simpa [Instr.loadAt, Instr.sureAddr, asAddr] using hr
            have := D.vElem q (List.mem_of_find?_eq_some hq) (ρ.at n o) _ w1 hr'
            rw [hqt'] at this
            simpa [SV.dens, SV.den, hS, hOf_den ht ρ, At.den] using this
          · exact MSpec.no
        · exact MSpec.no
      · exact MSpec.no
    · exact MSpec.no
  · refine Spec.ok_of fun Φ C ρ h w args hro hok => ?_
    simp only [setRun]
    split
    · rename_i x n o y m p
      split
      · rename_i t t' ht ht'
        split
        · rename_i hc
          obtain ⟨rfl, hc⟩ := hc
          simp only [SV.oks, SV.ok, Bool.and_true, Bool.and_eq_true] at hok
          have hp : SvIs ρ (.ptr m p) (.pointer (some (ρ.at m p))) := ⟨by simp only [SV.ok, Bool.and_eq_true]; exact hok.2.2.1, rfl⟩
          have hq : SvIs ρ (.ptr n o) (.pointer (some (ρ.at n o))) := ⟨by simp only [SV.ok, Bool.and_eq_true]; exact hok.1.2.1, rfl⟩
          refine (ldVar_spec (P := P) hro hp).bind ?_
          rintro z ρ1 h1 w1 l1 ⟨rfl, _, v, hv, hr⟩
          refine (stVar_spec (P := P) (hq.mono l1) hv).bind ?_
          rintro _ ρ2 h2 w2 l2 hs
          refine MSpec.ret ⟨.tuple #[], ⟨rfl, rfl⟩, ?_⟩
          have h1 : (loadVar t (ρ.at m p)).run P w1 = .ok v w1 := by simpa [Instr.loadAt, Instr.sureAddr, asAddr] using hr
          have h2 : (storeVar t (ρ.at n o) v).run P w1 = .ok () w2 := by simpa [DoesU, Instr.storeAt, Instr.sureAddr, asAddr] using hs
          have := D.set t (by simpa using hc) _ _ v w1 w2 h1 h2
          simpa [SV.dens, SV.den, hS, hOf_den ht ρ, hOf_den ht' ρ, At.den] using this
        · exact MSpec.no
      · exact MSpec.no
    · exact MSpec.no
  · refine Spec.ok_of fun Φ C ρ h w args hro hok => ?_
    simp only [rowRun]
    split
    · rename_i as has
      split
      · rename_i q hq
        have hm := List.mem_of_find?_eq_some hq
        have hf := List.find?_some hq
        simp only [Bool.and_eq_true, beq_iff_eq, decide_eq_true_eq] at hf
        refine MSpec.ret ⟨_, rres_is ρ q.res, ?_⟩
        have := D.rows q hm w
        rw [hf.1, hf.2] at this
        rw [rargs_den has ρ]
        exact this
      · exact MSpec.no
    · exact MSpec.no
end
end Go.Sx
/- From a contract to a row: what a law leaves of its arguments. -/
set_option linter.unusedVariables false
namespace Go.Sx
open Go.ChangeShapes Go.WideShapes Go.RowKit

section
variable {H : Type} {enc : TypeId × Value → H} {P : Program}

theorem trodAll_stays (hl : laidOutB P = true) {W W' : World} (hsame : ∀ p : MemPlace, p.block < W.heap.size → W.sameAt W' p) :
    ∀ {ts : List TypeId} {vs : List Value} {ds : List (DataW H)} {ps : List MemPlace}, (ts.all fun t => P.readableRec t && decide (t < P.types.size)) = true →
    DataW.TrodAll enc P W 0 (fun _ => true) true ts vs ds ps → (∀ x ∈ ps, x.block < W.heap.size) → DataW.TrodAll enc P W' 0 (fun b => decide (b < W.heap.size)) true ts vs ds ps
  | [], vs, ds, ps, _, h, _ => by
    cases vs <;> cases ds <;> exact h
  | t :: ts, [], ds, ps, _, h, _ => by cases ds <;> exact h.elim
  | t :: ts, v :: vs, [], ps, _, h, _ => h.elim
  | t :: ts, v :: vs, d :: ds, ps, ht, h, hlt => by
    simp only [List.all_cons, Bool.and_eq_true, decide_eq_true_eq] at ht
    obtain ⟨p, q, h1, h2, e⟩ := h
    subst e
    refine ⟨p, q, ?_, ?_, rfl⟩
    · exact WideElems.Trod_stays hl ht.1.1 ht.1.2 h1 (fun x hx => hsame x (hlt x (List.mem_append_left _ hx))) (fun x hx => by simpa using hlt x (List.mem_append_left _ hx))
    · exact trodAll_stays hl hsame (by simpa using ht.2) h2 fun x hx => hlt x (List.mem_append_right _ hx)

theorem frame_same {W W' : World} {ro : List (Addr × Value)} (h : Frame ⟨W, [], ro⟩ W') {p : MemPlace} (hp : p.block < W.heap.size) : W.sameAt W' p := by
  have hb := h.old p.block hp (by simp)
  cases p with
  | cell b o => exact World.cell?_of_block (w := W) hb
  | map b => exact hb
theorem frame_kept {W W' : World} {ro : List (Addr × Value)} (h : Frame ⟨W, [], ro⟩ W') (may : MemPlace → Prop) : W.keptBut W' may := by
  refine ⟨h.os, h.output, fun i hi => ?_⟩
  rw [h.old i hi (by simp)]
  split <;> simp_all
theorem post_kept {f : Func} {s : ChangeSpec} {apart : Bool} {W W' : World} {args : Array Value} {ds gs : List (DataW H)} {before : List MemPlace} {ro : List (Addr × Value)} {tb : TypeId}
    (hl : laidOutB P = true) (hts : (f.params.toList.all fun t => P.readableRec t && decide (t < P.types.size)) = true) (hvars : s.vars = []) (hres : f.resultTypes = #[tb]) (hb : P.underlying tb = some .bool)
    (hW : DataW.Whole enc P f.params.toList s.vars apart W args.toList ds gs before) (hfr : Frame ⟨W, [], ro⟩ W')
    (hfn : s.fn H (ds ++ gs) = { results := [.lit (.bool true)], args := ds }) : s.post enc P f apart true false false W args (.bool true) W' := by
  have hW' := hW
  obtain ⟨p, q, hA, hV, e, hnf, hnd⟩ := hW
  have hlt : ∀ x ∈ before, x.block < W.heap.size := fun x hx => by simpa using hW'.lt x hx
  have hgs : gs = [] ∧ q = [] := by
    rw [hvars] at hV
    cases gs with
    | nil => exact ⟨rfl, hV⟩
    | cons g r => exact absurd hV (by intro h; cases h)
  refine ⟨ds, gs, before, [], p, [], hW', ?_, ?_, ?_, frame_kept hfr _, fun h => by cases h⟩
  · rw [hfn, hres]; exact trodAll_mk1 (shut_bool hb true)
  · rw [hfn]; exact trodAll_stays hl (fun x hx => frame_same hfr hx) hts hA fun x hx => hlt x (by rw [e]; exact List.mem_append_left _ hx)
  · rw [hfn, hvars]; rfl
end

theorem calls_of_invokes {P : Program} {f : FuncId} {fn : Func} {c : Code} (hf : P.funcs[f]? = some fn) (hb : fn.body = some c) (hn : plainName fn = true) {vs : Array Value} {w : World} {K : Value → World → Prop} (h : Invokes P f vs w K) :
    Calls P f vs w fun e w' => ∃ v, e = .returned v ∧ K v w' := by
  unfold Invokes at h
  rw [callFunc_enter hf hb hn] at h
  exact h

/-- The start of a contract without blocks. -/
theorem FSpec.start {s : FSpec} {ro : List (Addr × Value)} (hhp : s.hp = []) (hnl : s.nl = 0) (hnb : s.nb = 0) (hlr : s.ilrng = []) {is : List Int} (hlen : is.length = s.ni) (hr : ∀ r ∈ s.irng, r.1 < s.ni ∧ r.2.1 ≤ is.getD r.1 0 ∧ is.getD r.1 0 ≤ r.2.2) (W : World) :
    RepH (s.ctx ⟨is, [], []⟩ W ro) ⟨is, [], []⟩ s.H0 W := by
  refine ⟨hlen, by simp [FSpec.H0, hnl], by simp [FSpec.H0, hnb], Facts.of ?_ ?_ ?_ ?_ ?_, ⟨Nat.le_refl _, fun _ _ _ => rfl, rfl, rfl⟩⟩
  · intro e he; simp only [FSpec.H0, hhp] at he; cases he
  · simp [FSpec.H0, hhp, ownPhys]
  · intro r hr' σ
    have := hr r hr'
    rw [show ((⟨is, [], []⟩ : Env).app σ).is.getD r.1 0 = is.getD r.1 0 from getD_app (by rw [hlen]; exact this.1)]
    exact this.2
  · intro d hd; cases hd
  · intro r hr' ; simp only [FSpec.H0, hlr] at hr'; cases hr'

/-- A law without blocks, by its contract. -/
theorem FSpec.law {P : Program} {ro : List (Addr × Value)} {s : FSpec} (hs : s.Holds P ro) {fn : Func} {c : Code} (hf : P.funcs[s.f]? = some fn) (hb : fn.body = some c) (hn : plainName fn = true)
    (hhp : s.hp = []) (hnl : s.nl = 0) (hnb : s.nb = 0) (hlr : s.ilrng = []) (hres : s.res = .b (.c 1)) {is : List Int} (hlen : is.length = s.ni)
    (hr : ∀ r ∈ s.irng, r.1 < s.ni ∧ r.2.1 ≤ is.getD r.1 0 ∧ is.getD r.1 0 ≤ r.2.2) (hok : SV.oks s.ni 0 s.args = true) (hpre : s.rel.pre is []) {W : World} (hro : ∀ p ∈ ro, W.cell? p.1 = some p.2 ∧ p.1.block < W.heap.size) :
    Calls P s.f (SV.dens ⟨is, [], []⟩ s.args).toArray W fun e W' => e = .returned (.bool true) ∧ Frame ⟨W, [], ro⟩ W' := by
  have hown : ownPhys ⟨is, [], []⟩ s.hp = [] := by rw [hhp]; rfl
  have hctx : s.ctx ⟨is, [], []⟩ W ro = ⟨W, [], ro⟩ := by unfold FSpec.ctx; rw [hown]
  have h := hs W ⟨is, [], []⟩ (by rw [hctx]; exact fun p hp => ⟨(hro p hp).1, (hro p hp).2, by simp⟩) (FSpec.start hhp hnl hnb hlr hlen hr W) (by rw [hlen]; exact hok) hpre
  refine (calls_of_invokes hf hb hn h).mono ?_
  rintro e W' ⟨v, rfl, τ, hp⟩
  have hv := hp.val
  rw [hres] at hv
  obtain ⟨_, rfl⟩ := hv.bool
  refine ⟨rfl, ?_⟩
  have := hp.rep.frame
  rw [hctx] at this
  exact this
/-- A law whose arguments' blocks are only read, by its contract. -/
theorem FSpec.law2 {P : Program} {ro : List (Addr × Value)} {s : FSpec} (hs : s.Holds P ro) {fn : Func} {c : Code} (hf : P.funcs[s.f]? = some fn) (hb : fn.body = some c) (hn : plainName fn = true)
    (hres : s.res = .b (.c 1)) {W : World} (is : List Int) (ls : List (List Int)) (bs : List (Nat × Nat)) (hro : ∀ p ∈ ro, W.cell? p.1 = some p.2 ∧ p.1.block < W.heap.size)
    (hlen : is.length = s.ni ∧ ls.length = s.nl ∧ bs.length = s.nb) (hr : ∀ r ∈ s.irng, r.1 < s.ni ∧ r.2.1 ≤ is.getD r.1 0 ∧ is.getD r.1 0 ≤ r.2.2) (hlr : s.ilrng = [])
    (hblk : ∀ e ∈ s.hp, e.2.owned = false ∧ BlkOk ⟨W, [], ro⟩ ⟨is, ls, bs⟩ W e.1 e.2) (hok : SV.oks s.ni s.nb s.args = true) (hpre : s.rel.pre is ls) :
    Calls P s.f (SV.dens ⟨is, ls, bs⟩ s.args).toArray W fun e W' => e = .returned (.bool true) ∧ Frame ⟨W, [], ro⟩ W' := by
  have hown : ownPhys ⟨is, ls, bs⟩ s.hp = [] := by
    unfold ownPhys
    rw [List.flatMap_eq_nil_iff]
    exact fun e he => ro_phys (hblk e he).1 _ _
  have hctx : s.ctx ⟨is, ls, bs⟩ W ro = ⟨W, [], ro⟩ := by unfold FSpec.ctx; rw [hown]
  have h := hs W ⟨is, ls, bs⟩ (by rw [hctx]; exact fun p hp => ⟨(hro p hp).1, (hro p hp).2, by simp⟩) ?_ (by rw [hlen.1, hlen.2.2]; exact hok) hpre
  · refine (calls_of_invokes hf hb hn h).mono ?_
    rintro e W' ⟨v, rfl, τ, hp⟩
    have hv := hp.val
    rw [hres] at hv
    obtain ⟨_, rfl⟩ := hv.bool
    refine ⟨rfl, ?_⟩
    have := hp.rep.frame
    rw [hctx] at this
    exact this
  · rw [hctx]
    refine ⟨hlen.1, hlen.2.1, hlen.2.2, Facts.of (fun e he => (hblk e he).2) (by show (ownPhys ⟨is, ls, bs⟩ s.hp).Nodup; rw [hown]; simp) (fun q hq σ => ?_) (fun d hd => by cases hd) (fun q hq => by simp only [FSpec.H0, hlr] at hq; cases hq), ⟨Nat.le_refl _, fun _ _ _ => rfl, rfl, rfl⟩⟩
    have := hr q hq
    rw [show ((⟨is, ls, bs⟩ : Env).app σ).is.getD q.1 0 = is.getD q.1 0 from getD_app (by rw [hlen.1]; exact this.1)]
    exact this.2
end Go.Sx
/- Arguments that are numbers, truth values, structs and arrays of such, slices of these. -/
set_option linter.unusedVariables false
namespace Go.Sx
open Go.ChangeShapes Go.WideShapes Go.RowKit

def flatOk : List CK → List Int → Prop
  | [], [] => True
  | k :: ks, n :: ns => k.lo ≤ n ∧ n ≤ k.hi ∧ flatOk ks ns
  | _, _ => False
def valsOf : List CK → List Int → List Value
  | k :: ks, n :: ns => k.val n :: valsOf ks ns
  | _, _ => []
theorem flatOk_cons {k : CK} {ks : List CK} {ns : List Int} (h : flatOk (k :: ks) ns) : ∃ n ns', ns = n :: ns' ∧ k.lo ≤ n ∧ n ≤ k.hi ∧ flatOk ks ns' := by
  cases ns with
  | nil => exact h.elim
  | cons n ns' => exact ⟨n, ns', rfl, h⟩
theorem flatOk_nil {ns : List Int} (h : flatOk [] ns) : ns = [] := by
  cases ns with
  | nil => rfl
  | cons n ns' => exact h.elim
theorem flatOk_len : ∀ {ks : List CK} {ns : List Int}, flatOk ks ns → ns.length = ks.length
  | [], [], _ => rfl
  | [], _ :: _, h => h.elim
  | _ :: _, [], h => h.elim
  | k :: ks, n :: ns, h => by simp [flatOk_len h.2.2]
theorem flatOk_app : ∀ {ks ks' : List CK} {ns ns' : List Int}, flatOk ks ns → flatOk ks' ns' → flatOk (ks ++ ks') (ns ++ ns')
  | [], _, [], _, _, h => h
  | [], _, _ :: _, _, h, _ => h.elim
  | _ :: _, _, [], _, h, _ => h.elim
  | k :: ks, _, n :: ns, _, h, h' => ⟨h.1, h.2.1, flatOk_app h.2.2 h'⟩
theorem valsOf_app : ∀ {ks ks' : List CK} {ns ns' : List Int}, ns.length = ks.length → valsOf (ks ++ ks') (ns ++ ns') = valsOf ks ns ++ valsOf ks' ns'
  | [], _, [], _, _ => rfl
  | [], _, _ :: _, _, h => by simp at h
  | _ :: _, _, [], _, h => by simp at h
  | k :: ks, _, n :: ns, _, h => by
    simp only [List.cons_append, valsOf, valsOf_app (ks := ks) (ns := ns) (by simpa using h)]
theorem valsOf_len : ∀ {ks : List CK} {ns : List Int}, ns.length = ks.length → (valsOf ks ns).length = ks.length
  | [], [], _ => rfl
  | [], _ :: _, h => by simp at h
  | _ :: _, [], h => by simp at h
  | k :: ks, n :: ns, h => by simp [valsOf, valsOf_len (ks := ks) (ns := ns) (by simpa using h)]
theorem valsOf_get : ∀ {ks : List CK} {ns : List Int} {i : Nat}, ns.length = ks.length → i < ks.length → (valsOf ks ns)[i]? = some ((ks.getD i (.i .i64)).val (ns.getD i 0))
  | [], _, i, _, h => by simp at h
  | _ :: _, [], _, h, _ => by simp at h
  | k :: ks, n :: ns, 0, _, _ => by simp [valsOf]
  | k :: ks, n :: ns, i + 1, h, hi => by
    simp only [valsOf, List.getElem?_cons_succ]
    rw [valsOf_get (ks := ks) (ns := ns) (by simpa using h) (by simpa using hi)]
    simp
theorem flatOk_get : ∀ {ks : List CK} {ns : List Int} {i : Nat}, flatOk ks ns → i < ks.length → (ks.getD i (.i .i64)).lo ≤ ns.getD i 0 ∧ ns.getD i 0 ≤ (ks.getD i (.i .i64)).hi
  | [], _, i, _, h => by simp at h
  | _ :: _, [], _, h, _ => h.elim
  | k :: ks, n :: ns, 0, h, _ => by simpa using ⟨h.1, h.2.1⟩
  | k :: ks, n :: ns, i + 1, h, hi => by
    have := flatOk_get (ks := ks) (ns := ns) (i := i) h.2.2 (by simpa using hi)
    simpa using this

def repeatK (ks : List CK) : Nat → List CK
  | 0 => []
  | n + 1 => repeatK ks n ++ ks
theorem repeatK_len (ks : List CK) : ∀ n, (repeatK ks n).length = n * ks.length
  | 0 => by simp [repeatK]
  | n + 1 => by rw [repeatK, List.length_append, repeatK_len ks n, Nat.succ_mul]
def flatFs (F : TypeId → Option (List CK)) (S : TypeId → Nat) : Nat → List Field → Option (List CK)
  | _, [] => some []
  | off, f :: fs => match F f.type with
    | some ks => if f.offset = off ∧ ks.length = S f.type then (flatFs F S (off + ks.length) fs).map (ks ++ ·) else none
    | none => none
/-- The kinds of a type's cells, if they are numbers and truth values. -/
def flatT (P : Program) : Nat → TypeId → Option (List CK)
  | 0, _ => none
  | f + 1, t => match P.underlying t with
    | some (.int k) => some [.i k]
    | some .bool => some [.b]
    | some (.array n e) => match flatT P f e with
      | some ks => if ks.length = P.cellsOf e ∧ (repeatK ks n).length = P.cellsOf t then some (repeatK ks n) else none
      | none => none
    | some (.struct fs) => match flatFs (flatT P f) P.cellsOf 0 fs.toList with
      | some ks => if ks.length = P.cellsOf t then some ks else none
      | none => none
    | _ => none
def FlatIs (ks : List CK) (cs : List Value) : Prop := ∃ ns, cs = valsOf ks ns ∧ flatOk ks ns
theorem FlatIs.app {ks ks' : List CK} {cs cs' : List Value} : FlatIs ks cs → FlatIs ks' cs' → FlatIs (ks ++ ks') (cs ++ cs') := by
  rintro ⟨ns, rfl, h⟩ ⟨ns', rfl, h'⟩
  exact ⟨ns ++ ns', (valsOf_app (flatOk_len h)).symm, flatOk_app h h'⟩

section
variable {H : Type} {enc : TypeId × Value → H} {P : Program} {w : World} {base : Nat} {spare : Nat → Bool} {held : Bool}
theorem flat_arr {ks : List CK} {cs : List Value} : ∀ (n : Nat), (∀ i, i < n → FlatIs ks ((cs.drop (i * ks.length)).take ks.length)) → FlatIs (repeatK ks n) (cs.take (n * ks.length))
  | 0, _ => ⟨[], by simp [repeatK, valsOf], trivial⟩
  | n + 1, h => by
    have ih := flat_arr n fun i hi => h i (by omega)
    have := ih.app (h n (by omega))
    have e : cs.take (n * ks.length) ++ (cs.drop (n * ks.length)).take ks.length = cs.take ((n + 1) * ks.length) := by
      rw [Nat.succ_mul, List.take_add]
    rw [e] at this
    exact this
theorem flat_fs {F : TypeId → Option (List CK)} {S : TypeId → Nat} {cs : List Value} : ∀ (fs : List Field) (off : Nat) (ks : List CK), flatFs F S off fs = some ks →
    (∀ f ∈ fs, ∀ k, F f.type = some k → FlatIs k ((cs.drop f.offset).take (S f.type))) → FlatIs ks ((cs.drop off).take ks.length)
  | [], off, ks, e, _ => by cases e; exact ⟨[], by simp [valsOf], trivial⟩
  | f :: fs, off, ks, e, h => by
    unfold flatFs at e
    split at e
    · rename_i k ek
      split at e
      · rename_i hc
        obtain ⟨ho, hl⟩ := hc
        cases er : flatFs F S (off + k.length) fs with
        | none => rw [er] at e; cases e
        | some r =>
          rw [er] at e
          simp only [Option.map_some, Option.some.injEq] at e
          subst e
          have h1 := h f (List.mem_cons_self ..) k ek
          rw [ho, ← hl] at h1
          have h2 := flat_fs fs (off + k.length) r er fun g hg => h g (List.mem_cons_of_mem _ hg)
          have := h1.app h2
          have e2 : (cs.drop off).take k.length ++ (cs.drop (off + k.length)).take r.length = (cs.drop off).take (k ++ r).length := by
            rw [List.length_append, List.take_add, List.drop_drop]
          rw [e2] at this
          exact this
      · cases e
    · cases e
theorem flat_cells : ∀ (f : Nat) {t : TypeId} {ks : List CK}, flatT P f t = some ks → ∀ {fuel : Nat} {cs : List Value} {x : DataW H × List MemPlace}, DataW.trod enc P w base spare held fuel t cs = some x → FlatIs ks cs
  | 0, _, _, e, _, _, _, _ => by cases e
  | f + 1, t, ks, e, fuel, cs, x, hx => by
    unfold flatT at e
    split at e
    · rename_i k eu
      cases e
      obtain ⟨n, rfl, _, hw⟩ := DataW.trod_int eu hx
      have hr : k.min ≤ n ∧ n ≤ k.max := by simpa [Lit.wf] using hw
      exact ⟨[n], rfl, hr.1, hr.2, trivial⟩
    · rename_i eu
      cases e
      obtain ⟨b, rfl, _⟩ := DataW.trod_bool eu hx
      refine ⟨[b2i b], ?_, ?_⟩
      · cases b <;> simp [valsOf, CK.val, b2i]
      · cases b <;> simp [flatOk, CK.lo, CK.hi, b2i]
    · rename_i n el eu
      split at e
      · rename_i ks0 ek
        split at e
        · rename_i hc
          cases e
          obtain ⟨xs, m, _, _, hlen, hxs, hel⟩ := DataW.trod_array eu hx
          have := flat_arr (cs := cs) n fun i hi => by
            have h1 := hel i hi
            rw [List.getElem?_eq_getElem (by rw [hxs]; exact hi)] at h1
            have := flat_cells f ek h1
            rw [← hc.1] at this
            exact this
          rw [List.take_of_length_le (by rw [hlen, ← hc.2, repeatK_len]; exact Nat.le_refl _)] at this
          exact this
        · cases e
      · cases e
    · rename_i fs eu
      split at e
      · rename_i ks0 ek
        split at e
        · rename_i hc
          cases e
          obtain ⟨xs, m, _, _, hlen, hxs, hel⟩ := DataW.trod_struct eu hx
          have := flat_fs (cs := cs) fs.toList 0 ks ek fun fd hfd k hk => by
            obtain ⟨i, hi, hget⟩ := List.getElem_of_mem hfd
            have hi' : i < fs.size := by simpa using hi
            have h1 := hel i fd (by rw [Array.getElem?_eq_getElem hi']; exact congrArg some (by simpa using hget))
            rw [List.getElem?_eq_getElem (by rw [hxs]; exact hi')] at h1
            exact flat_cells f hk h1
          rw [List.drop_zero, List.take_of_length_le (by rw [hlen, hc]; exact Nat.le_refl _)] at this
          exact this
        · cases e
      · cases e
    · cases e

/-- A struct or an array of numbers. -/
theorem open_flat {r : Reach} {b0 f : Nat} {t : TypeId} {ks : List CK} {v : Value} {d : DataW H} {ps : List MemPlace} (hag : (match P.underlying t with | some (.struct _) => true | some (.array _ _) => true | _ => false) = true) (hf : flatT P f t = some ks)
    (hval : Value.okWide P w r b0 t v) (hd : DataW.Trod enc P w base spare held t v d ps) : ∃ ns, v = .agg (valsOf ks ns).toArray ∧ flatOk ks ns := by
  have ha : ∃ cs, v = .agg cs := by
    unfold Value.okWide at hval
    split at hval
    · obtain ⟨cs, h, _⟩ := hval; exact ⟨cs, h⟩
    · obtain ⟨cs, h, _⟩ := hval; exact ⟨cs, h⟩
    · rename_i h1 h2
      split at hag
      · rename_i e; exact absurd e (h1 _)
      · rename_i e; exact absurd e (h2 _ _)
      · cases hag
  obtain ⟨cs, rfl⟩ := ha
  obtain ⟨fuel, hf'⟩ := hd
  obtain ⟨ns, hns, hok⟩ := flat_cells f hf hf'
  have hcs : (Value.agg cs).cells.toList = cs.toList := rfl
  rw [hcs] at hns
  exact ⟨ns, by rw [← hns], hok⟩
/-- A slice of such. -/
structure FlatSlice (W : World) (base : Nat) (ks : List CK) (s : Nat) (a : Addr) (len cap : Nat) (L : List Int) : Prop where
  base : base ≤ a.block
  spot : a.spot = none
  blk : a.block < W.heap.size
  le : len ≤ cap
  max : cap ≤ 9223372036854775807
  length : L.length = len * s
  cell : ∀ j, j < L.length → W.cell? (a.add j) = some (cellAt ks j (L.getD j 0))
  typed : ∀ j, j < L.length → (ks.getD (j % ks.length) (.i .i64)).lo ≤ L.getD j 0 ∧ L.getD j 0 ≤ (ks.getD (j % ks.length) (.i .i64)).hi
theorem flat_rows {ks : List CK} (hk : 0 < ks.length) {a : Addr} : ∀ (n : Nat), (∀ i, i < n → ∃ ns, flatOk ks ns ∧ ∀ j, j < ks.length → w.cell? (a.add (i * ks.length + j)) = some ((ks.getD j (.i .i64)).val (ns.getD j 0))) →
    ∃ L : List Int, L.length = n * ks.length ∧ (∀ j, j < L.length → w.cell? (a.add j) = some (cellAt ks j (L.getD j 0))) ∧ ∀ j, j < L.length → (ks.getD (j % ks.length) (.i .i64)).lo ≤ L.getD j 0 ∧ L.getD j 0 ≤ (ks.getD (j % ks.length) (.i .i64)).hi
  | 0, _ => ⟨[], by simp, by simp, by simp⟩
  | n + 1, h => by
    obtain ⟨L, hl, hc, ht⟩ := flat_rows hk n fun i hi => h i (by omega)
    obtain ⟨ns, hok, hns⟩ := h n (by omega)
    have hnl := flatOk_len hok
    have key : ∀ j, ¬ j < L.length → j < (L ++ ns).length → j % ks.length = j - L.length ∧ j - L.length < ks.length ∧ (L ++ ns).getD j 0 = ns.getD (j - L.length) 0 := by
      intro j h1 h2
      rw [List.length_append, hnl] at h2
      refine ⟨?_, by omega, ?_⟩
      · have : j = (j - L.length) + ks.length * n := by rw [hl, Nat.mul_comm n] at *; omega
        conv => lhs; rw [this]
        rw [Nat.add_mul_mod_self_left, Nat.mod_eq_of_lt (by omega)]
      · simp only [List.getD]
        rw [List.getElem?_append_right (by omega)]
    have low : ∀ j, j < L.length → (L ++ ns).getD j 0 = L.getD j 0 := fun j hj => by simp [List.getD, List.getElem?_append_left hj]
    refine ⟨L ++ ns, by rw [List.length_append, hl, hnl, Nat.succ_mul], fun j hj => ?_, fun j hj => ?_⟩
    · by_cases h1 : j < L.length
      · rw [low j h1]; exact hc j h1
      · obtain ⟨k1, k2, k3⟩ := key j h1 hj
        have := hns (j - L.length) k2
        rw [show n * ks.length + (j - L.length) = j by omega] at this
        rw [this, k3]
        unfold cellAt
        rw [k1]
    · by_cases h1 : j < L.length
      · rw [low j h1]; exact ht j h1
      · obtain ⟨k1, k2, k3⟩ := key j h1 hj
        rw [k1, k3]
        exact flatOk_get hok k2
theorem open_flats {f : Nat} {t e : TypeId} {ks : List CK} (ht : P.underlying t = some (.slice e)) (hf : flatT P f e = some ks) (hc : P.cellsOf e = ks.length) (hk : 0 < ks.length) {r : Reach} {b0 : Nat} {v : Value} {d : DataW H} {ps : List MemPlace}
    (hd : DataW.Trod enc P w base spare held t v d ps) (hval : Value.okWide P w r b0 t v) : v = .slice none 0 0 ∨ ∃ a len cap L, v = .slice (some a) len cap ∧ FlatSlice w base ks ks.length a len cap L := by
  obtain ⟨fuel, hd⟩ := hd
  have hv : ∀ c, v.cells.toList = [c] → (∀ xs, v ≠ .agg xs) → v = c := by
    intro c hc hna
    cases v <;> simp [Value.cells] at hc <;> first | exact hc | exact absurd rfl (hna _)
  have hna : ∀ xs, v ≠ .agg xs := by
    intro xs hx
    subst hx
    unfold Value.okWide at hval
    rw [ht] at hval
    simp only at hval
    unfold Cell.okWide at hval
    rw [ht] at hval
    simp only at hval
    unfold Cell.ok at hval
    rw [ht] at hval
    simp at hval
  rcases DataW.trod_slice ht hd with ⟨h0, _⟩ | ⟨a, len, cap, elems, rest, n, _, h0, _, hb, hl, hm, hlen, hel, _, _⟩
  · exact .inl (hv _ h0 hna)
  · right
    have hrows := flat_rows (w := w) (ks := ks) (a := a) hk len fun i hi => by
      have h1 := hel i hi
      rw [List.getElem?_eq_getElem (by omega), hc, Option.bind_eq_some_iff] at h1
      obtain ⟨cs', h2, h3⟩ := h1
      obtain ⟨ns, rfl, hok⟩ := flat_cells f hf h3
      have h4 := (World.cells?_some h2)
      refine ⟨ns, hok, fun j hj => ?_⟩
      have h5 := h4.2.2 j hj
      rw [Addr.add_add] at h5
      rw [h5]
      exact valsOf_get (flatOk_len hok) hj
    obtain ⟨L, h1, h2, h3⟩ := hrows
    have hve := hv _ h0 hna
    have hhas : w.has P r b0 a e cap := by
      subst hve
      unfold Value.okWide at hval
      rw [ht] at hval
      simp only at hval
      unfold Cell.okWide at hval
      rw [ht] at hval
      simp only at hval
      unfold Cell.ok at hval
      rw [ht] at hval
      exact hval.2.2
    obtain ⟨_, hspot, row, cells, hsh, _⟩ := hhas
    have hblk : a.block < w.heap.size := by
      unfold World.shape? at hsh
      rcases Nat.lt_or_ge a.block w.heap.size with hh | hh
      · exact hh
      · rw [Array.getElem?_eq_none hh] at hsh; cases hsh
    exact ⟨a, len, cap, L, hve, hb, hspot, hblk, hl, by simpa [maxLen] using hm, h1, h2, h3⟩
theorem FlatSlice.ro {W : World} {base s : Nat} {ks : List CK} {a : Addr} {len cap : Nat} {L : List Int} (F : FlatSlice W base ks s a len cap L) {ro : List (Addr × Value)} {is : List Int} {ls : List (List Int)} {bs : List (Nat × Nat)} {n l : Nat} {la : At}
    (hn : n < bs.length) (hb : bs.getD n (0, 0) = (a.block, a.off)) (hl : l < ls.length) (hL : ls.getD l [] = L) (hla : la.lt is.length = true) (hlv : la.den is = L.length) :
    BlkOk ⟨W, [], ro⟩ ⟨is, ls, bs⟩ W n (.ro ks l la) := by
  refine ⟨hn, ?_, (fun p hp => by cases hp), ?_⟩
  · simp only [Blk.inB, Bool.and_eq_true, decide_eq_true_eq]; exact ⟨hl, hla⟩
  · have hb' : (⟨is, ls, bs⟩ : Env).b n = (a.block, a.off) := hb
    simp only [Blk.holds, hb']
    rw [hL]
    refine ⟨F.blk, by simp, fun j hj => ?_, hlv.symm, F.typed⟩
    have := F.cell j hj
    have e : a.add j = ⟨a.block, a.off + j, none⟩ := by
      unfold Addr.add
      have hs := F.spot
      cases a
      simp only at hs
      subst hs
      split
      · rename_i h; subst h; simp
      · rfl
    rw [e] at this
    exact this
theorem FlatSlice.val {W : World} {base s : Nat} {ks : List CK} {a : Addr} {len cap : Nat} {L : List Int} (F : FlatSlice W base ks s a len cap L) {is : List Int} {ls : List (List Int)} {bs : List (Nat × Nat)} {n : Nat} {la ca : At}
    (hb : bs.getD n (0, 0) = (a.block, a.off)) (hl : la.den is = len) (hc : ca.den is = cap) : SV.den ⟨is, ls, bs⟩ (.slc n (.c 0) la ca) = .slice (some a) len cap := by
  have hb' : (⟨is, ls, bs⟩ : Env).b n = (a.block, a.off) := hb
  simp only [SV.den, Env.at, hb', hl, hc, At.den_c]
  have hs := F.spot
  cases a
  simp only at hs
  subst hs
  simp
theorem oneKind_get (ks : List CK) (hk : 0 < ks.length) (j : Nat) : (oneKind ks).getD (j % (oneKind ks).length) (.i .i64) = ks.getD (j % ks.length) (.i .i64) := by
  unfold oneKind
  split
  · rename_i k r
    split
    · rename_i h
      have : ∀ i, i < (k :: r).length → (k :: r).getD i (.i .i64) = k := by
        intro i hi
        simp only [List.getD, List.getElem?_eq_getElem hi, Option.getD_some]
        rcases List.mem_cons.1 (List.getElem_mem hi) with hh | hh
        · exact hh
        · exact of_decide_eq_true (List.all_eq_true.1 h _ hh)
      simp only [List.length_cons]
      rw [this (j % (r.length + 1)) (Nat.mod_lt _ (by simp))]
      simp [Nat.mod_one]
    · rfl
  · simp at hk
theorem FlatSlice.one {W : World} {base s : Nat} {ks : List CK} {a : Addr} {len cap : Nat} {L : List Int} (hk : 0 < ks.length) (F : FlatSlice W base ks s a len cap L) : FlatSlice W base (oneKind ks) s a len cap L :=
  ⟨F.base, F.spot, F.blk, F.le, F.max, F.length, fun j hj => by rw [oneKind_cell ks hk]; exact F.cell j hj, fun j hj => by rw [oneKind_get ks hk]; exact F.typed j hj⟩

/-! ### A law's template, by its parameters -/
inductive Par where
  | one (k : CK)
  | agg (ks : List CK)
  | slc (ks : List CK)
  | nil
structure PSt where
  ni : Nat := 0
  nl : Nat := 0
  nb : Nat := 0
  args : List SV := []
  hp : List (Nat × Blk) := []
  irng : List (Nat × Int × Int) := []
  pre : List Int → List (List Int) → Prop := fun _ _ => True
/-- What is known of the numbers of a slice: its length, its room, its cells. -/
def slcPre (ks : List CK) (s i l : Nat) (is : List Int) (ls : List (List Int)) : Prop :=
  0 ≤ is.getD i 0 ∧ is.getD i 0 ≤ is.getD (i + 1) 0 ∧ ((ls.getD l []).length : Int) = is.getD i 0 * s ∧ (s ≠ 1 → is.getD (i + 2) 0 = is.getD i 0 * s) ∧
  ∀ j, j < (ls.getD l []).length → (ks.getD (j % ks.length) (.i .i64)).lo ≤ (ls.getD l []).getD j 0 ∧ (ls.getD l []).getD j 0 ≤ (ks.getD (j % ks.length) (.i .i64)).hi
def PSt.add (p : PSt) : Par → PSt
  | .one k => { p with ni := p.ni + 1, args := p.args ++ [k.sv (.v p.ni)], irng := p.irng ++ [(p.ni, k.lo, k.hi)] }
  | .agg ks => { p with ni := p.ni + ks.length, args := p.args ++ [.agg (ks.mapIdx fun i k => k.sv (.v (p.ni + i)))], irng := p.irng ++ ks.mapIdx fun i k => (p.ni + i, k.lo, k.hi) }
  | .slc ks =>
    let one := ks.length == 1
    { ni := p.ni + (if one then 2 else 3), nl := p.nl + 1, nb := p.nb + 1, args := p.args ++ [.slc p.nb (.c 0) (.v p.ni) (.v (p.ni + 1))],
      hp := p.hp ++ [(p.nb, .ro (oneKind ks) p.nl (.v (if one then p.ni else p.ni + 2)))],
      irng := p.irng ++ [(p.ni, 0, 9223372036854775807), (p.ni + 1, 0, 9223372036854775807)] ++ (if one then [] else [(p.ni + 2, (0 : Int), (9223372036854775807 : Int) * ks.length)]),
      pre := fun is ls => p.pre is ls ∧ slcPre (oneKind ks) ks.length p.ni p.nl is ls }
  | .nil => { p with args := p.args ++ [.nils] }
def lawSpec (f : FuncId) (ps : List Par) : FSpec :=
  let p := ps.foldl PSt.add {}
  { f := f, ni := p.ni, nl := p.nl, nb := p.nb, args := p.args, hp := p.hp, irng := p.irng, res := .b (.c 1), hp' := [], rel := ⟨p.pre, fun _ _ _ _ => True⟩ }
/-- With one more thing known of the numbers. -/
def FSpec.withPre (s : FSpec) (q : List Int → Prop) : FSpec := { s with rel := ⟨fun is ls => s.rel.pre is ls ∧ q is, s.rel.post⟩ }
end
end Go.Sx
/- The arguments of a law: arrays of integers, slices of integers. -/
set_option linter.unusedVariables false
namespace Go.Sx
open Go.ChangeShapes Go.WideShapes Go.RowKit

section
variable {H : Type} {enc : TypeId × Value → H} {P : Program} {w : World} {base : Nat} {spare : Nat → Bool} {held : Bool}

def intOfV : Value → Int
  | .int _ n => n
  | _ => 0
theorem open_intArr {r : Reach} {b0 n : Nat} {t e : TypeId} {k : IntKind} {v : Value} {d : DataW H} {ps : List MemPlace} (ht : P.underlying t = some (.array n e)) (he : P.underlying e = some (.int k)) (hc : P.cellsOf e = 1)
    (hct : P.cellsOf t = n) (hval : Value.okWide P w r b0 t v) (hd : DataW.Trod enc P w base spare held t v d ps) :
    ∃ ns : List Int, v = .agg (ns.map (Value.int k)).toArray ∧ ns.length = n ∧ ∀ x ∈ ns, (Lit.int k x).wf = true := by
  unfold Value.okWide at hval
  rw [ht] at hval
  obtain ⟨cs, rfl, hsz, _⟩ := hval
  obtain ⟨fuel, hf⟩ := hd
  obtain ⟨xs, m, _, _, hlen, hxs, hel⟩ := DataW.trod_array ht hf
  have hcs : (Value.agg cs).cells.toList = cs.toList := rfl
  rw [hcs] at hlen hel
  rw [hct] at hlen
  have key : ∀ i, i < n → ∃ z, cs.toList[i]? = some (.int k z) ∧ (Lit.int k z).wf = true := by
    intro i hi
    have h1 := hel i hi
    rw [hc, Nat.mul_one, List.getElem?_eq_getElem (by rw [hxs]; exact hi)] at h1
    obtain ⟨z, h2, _, h3⟩ := DataW.trod_int he h1
    refine ⟨z, ?_, h3⟩
    have hi' : i < cs.toList.length := by rw [hlen]; exact hi
    rw [List.getElem?_eq_getElem hi']
    rw [List.drop_eq_getElem_cons hi', List.take_succ_cons, List.take_zero] at h2
    simpa using h2
  refine ⟨cs.toList.map intOfV, ?_, by simp [← hlen], ?_⟩
  · congr 1
    apply Array.ext'
    simp only [List.map_map]
    apply List.ext_getElem?
    intro i
    simp only [List.getElem?_map]
    by_cases hi : i < n
    · obtain ⟨z, hz, _⟩ := key i hi
      rw [hz]; rfl
    · rw [List.getElem?_eq_none (by omega)]; rfl
  · intro x hx
    obtain ⟨c, hc', rfl⟩ := List.mem_map.1 hx
    obtain ⟨i, hi, hget⟩ := List.getElem_of_mem hc'
    obtain ⟨z, hz, hw⟩ := key i (by omega)
    rw [List.getElem?_eq_getElem hi, hget] at hz
    cases hz
    exact hw
theorem wf_range {k : IntKind} {x : Int} (h : (Lit.int k x).wf = true) : k.min ≤ x ∧ x ≤ k.max := by
  simpa [Lit.wf] using h
end
end Go.Sx
/- From what a law is called with to its template. -/
set_option linter.unusedVariables false
namespace Go.Sx
open Go.ChangeShapes Go.WideShapes Go.RowKit

/-! The trees' meaning, step by step. -/
section
variable {Φ : Phi} {is : List Int} {lls : List (List Int)}
theorem den_letI {o : IOp} {t : Tree} : (Tree.letI o t).den Φ is lls ↔ t.den Φ (is ++ [o.den is lls]) lls := by
  simp only [Tree.den]
  exact ⟨fun h => h _ rfl, fun h x e => by subst e; exact h⟩
theorem den_letL {o : LOp} {t : Tree} : (Tree.letL o t).den Φ is lls ↔ t.den Φ is (lls ++ [o.den is lls]) := by
  simp only [Tree.den]
  exact ⟨fun h => h _ rfl, fun h x e => by subst e; exact h⟩
theorem den_ite {a : At} {t e : Tree} : (Tree.ite a t e).den Φ is lls ↔ ((a.den is ≠ 0 → t.den Φ is lls) ∧ (a.den is = 0 → e.den Φ is lls)) := by
  simp only [Tree.den]
theorem den_need {op : BinOp} {a b : At} {t : Tree} : (Tree.need op a b t).den Φ is lls ↔ (cmpB op (a.den is) (b.den is) = true ∧ t.den Φ is lls) := by
  simp only [Tree.den]
theorem den_done {xs : List At} {ls : List Nat} : (Tree.done xs ls).den Φ is lls ↔ Φ.post (xs.map (·.den is)) (ls.map fun l => lls.getD l []) := by
  simp only [Tree.den]
theorem den_both {a b : Tree} : (Tree.both a b).den Φ is lls ↔ (a.den Φ is lls ∧ b.den Φ is lls) := by
  simp only [Tree.den]
theorem den_fail {n : Nat} : (Tree.fail n).den Φ is lls ↔ False := by
  simp only [Tree.den]
theorem den_any {lo hi : At} {t : Tree} : (Tree.any lo hi t).den Φ is lls ↔ ∀ x, lo.den is ≤ x → x ≤ hi.den is → t.den Φ (is ++ [x]) lls := by
  simp only [Tree.den]
end

def ParIs (W : World) (base : Nat) : Par → Value → Env → Prop
  | .one k, v, d => ∃ n, v = k.val n ∧ k.lo ≤ n ∧ n ≤ k.hi ∧ d = ⟨[n], [], []⟩
  | .agg ks, v, d => ∃ ns, v = .agg (valsOf ks ns).toArray ∧ flatOk ks ns ∧ d = ⟨ns, [], []⟩
  | .slc ks, v, d => ∃ a len cap L, 0 < ks.length ∧ v = .slice (some a) len cap ∧ FlatSlice W base ks ks.length a len cap L ∧ d = ⟨[(len : Int), (cap : Int)] ++ (if ks.length = 1 then [] else [((len * ks.length : Nat) : Int)]), [L], [(a.block, a.off)]⟩
  | .nil, v, d => v = .slice none 0 0 ∧ d = .nil
def ParsIs (W : World) (base : Nat) : List Par → List Value → Env → Prop
  | [], vs, D => vs = [] ∧ D = .nil
  | p :: ps, vs, D => ∃ v vs' d D', vs = v :: vs' ∧ ParIs W base p v d ∧ ParsIs W base ps vs' D' ∧ D = d.app D'
theorem ParsIs.none {W : World} {base : Nat} : ParsIs W base [] [] .nil := ⟨rfl, rfl⟩
theorem ParsIs.cons {W : World} {base : Nat} {p : Par} {ps : List Par} {v : Value} {vs : List Value} {d D : Env} (h : ParIs W base p v d) (h' : ParsIs W base ps vs D) : ParsIs W base (p :: ps) (v :: vs) (d.app D) := ⟨v, vs, d, D, rfl, h, h', rfl⟩

structure PInv (W : World) (ro : List (Addr × Value)) (p : PSt) (vs : List Value) (D : Env) : Prop where
  ni : p.ni = D.is.length
  nl : p.nl = D.ls.length
  nb : p.nb = D.bs.length
  rng : ∀ r ∈ p.irng, r.1 < p.ni ∧ r.2.1 ≤ D.is.getD r.1 0 ∧ D.is.getD r.1 0 ≤ r.2.2
  hp : ∀ e ∈ p.hp, e.2.owned = false ∧ BlkOk ⟨W, [], ro⟩ D W e.1 e.2
  oks : SV.oks p.ni p.nb p.args = true
  dens : SV.dens D p.args = vs
  pre : ∀ σ : Env, p.pre (D.app σ).is (D.app σ).ls

theorem PInv.start (W : World) (ro : List (Addr × Value)) : PInv W ro {} [] .nil :=
  ⟨rfl, rfl, rfl, (fun r hr => by cases hr), (fun e he => by cases he), rfl, rfl, fun _ => trivial⟩

theorem den_sv (k : CK) (ρ : Env) (a : At) : SV.den ρ (k.sv a) = k.val (a.den ρ.is) := by
  cases k <;> rfl
theorem dens_mapIdx (ρ : Env) : ∀ (ks : List CK) (ns : List Int) (n : Nat), ns.length = ks.length → (∀ i, i < ns.length → ρ.is.getD (n + i) 0 = ns.getD i 0) → SV.dens ρ (ks.mapIdx fun i k => k.sv (.v (n + i))) = valsOf ks ns
  | [], [], n, _, _ => rfl
  | [], _ :: _, n, h, _ => by simp at h
  | _ :: _, [], n, h, _ => by simp at h
  | k :: ks, m :: ns, n, h, hg => by
    have h0 := hg 0 (by simp)
    have ih := dens_mapIdx ρ ks ns (n + 1) (by simpa using h) fun i hi => by
      have := hg (i + 1) (by simpa using hi)
      rw [show n + 1 + i = n + (i + 1) by omega, this]
      simp
    simp only [List.mapIdx_cons, SV.dens, den_sv, valsOf, At.den, Nat.add_zero]
    have e : (ks.mapIdx fun i k => k.sv (.v (n + (i + 1)))) = ks.mapIdx fun i k => k.sv (.v (n + 1 + i)) := by
      congr 1
      funext i k
      rw [show n + 1 + i = n + (i + 1) by omega]
    have h0' : ρ.is.getD n 0 = m := by simpa using h0
    simp only [h0']
    exact congrArg _ (e ▸ ih)
theorem oks_all {ni nb : Nat} : ∀ {xs : List SV}, (∀ x ∈ xs, SV.ok ni nb x = true) → SV.oks ni nb xs = true
  | [], _ => rfl
  | x :: xs, h => by
    simp only [SV.oks, Bool.and_eq_true]
    exact ⟨h x (List.mem_cons_self ..), oks_all fun y hy => h y (List.mem_cons_of_mem _ hy)⟩
theorem ok_sv {k : CK} {ni nb i : Nat} (h : i < ni) : SV.ok ni nb (k.sv (.v i)) = true := by
  cases k <;> simpa [CK.sv, SV.ok, At.lt] using h

theorem PInv.add {W : World} {base : Nat} {ro : List (Addr × Value)} {p : PSt} {vs : List Value} {D : Env} (I : PInv W ro p vs D) : ∀ {q : Par} {v : Value} {d : Env}, ParIs W base q v d → PInv W ro (p.add q) (vs ++ [v]) (D.app d)
  | .one k, v, d, h => by
    obtain ⟨n, rfl, h1, h2, rfl⟩ := h
    have L : D.is.getD p.ni 0 = D.is.getD D.is.length 0 := by rw [I.ni]
    have hn : (D.app ⟨[n], [], []⟩).is.getD p.ni 0 = n := by simp only [Env.app, I.ni]; exact getD_app_at ..
    refine ⟨by simp [PSt.add, Env.app, I.ni], by simp [PSt.add, Env.app, I.nl], by simp [PSt.add, Env.app, I.nb], ?_, ?_, ?_, ?_, ?_⟩
    · intro r hr
      simp only [PSt.add, List.mem_append, List.mem_singleton] at hr ⊢
      rcases hr with hr | rfl
      · obtain ⟨a, b, c⟩ := I.rng r hr
        rw [show (D.app ⟨[n], [], []⟩).is.getD r.1 0 = D.is.getD r.1 0 from getD_app (by rw [← I.ni]; exact a)]
        exact ⟨by omega, b, c⟩
      · exact ⟨by simp, by rw [hn]; exact h1, by rw [hn]; exact h2⟩
    · exact fun e he => ⟨(I.hp e he).1, (I.hp e he).2.app _⟩
    · exact oks_append (SV.oks_mono (by simp [PSt.add]) (Nat.le_refl _) _ I.oks) (oks_all fun x hx => by simp only [List.mem_singleton] at hx; subst hx; exact ok_sv (by simp [PSt.add]))
    · simp only [PSt.add]
      rw [dens_append, SV.dens_app _ (by rw [← I.ni, ← I.nb]; exact I.oks), I.dens]
      simp only [SV.dens, den_sv, At.den, hn]
    · intro σ
      rw [Env.app_assoc]
      exact I.pre _
  | .agg ks, v, d, h => by
    obtain ⟨ns, rfl, h1, rfl⟩ := h
    have hl := flatOk_len h1
    have hn : ∀ i, i < ns.length → (D.app ⟨ns, [], []⟩).is.getD (p.ni + i) 0 = ns.getD i 0 := by
      intro i hi
      simp [Env.app, I.ni, List.getD, List.getElem?_append_right]
    refine ⟨by simp [PSt.add, Env.app, I.ni, hl], by simp [PSt.add, Env.app, I.nl], by simp [PSt.add, Env.app, I.nb], ?_, ?_, ?_, ?_, ?_⟩
    · intro r hr
      simp only [PSt.add, List.mem_append] at hr ⊢
      rcases hr with hr | hr
      · obtain ⟨a, b, c⟩ := I.rng r hr
        rw [show (D.app ⟨ns, [], []⟩).is.getD r.1 0 = D.is.getD r.1 0 from getD_app (by rw [← I.ni]; exact a)]
        exact ⟨by omega, b, c⟩
      · obtain ⟨i, hi, rfl⟩ := List.mem_mapIdx.1 hr
        have := flatOk_get h1 hi
        simp only
        rw [hn i (by omega)]
        rw [List.getD, List.getElem?_eq_getElem hi, Option.getD_some] at this
        exact ⟨by omega, this⟩
    · exact fun e he => ⟨(I.hp e he).1, (I.hp e he).2.app _⟩
    · refine oks_append (SV.oks_mono (by simp [PSt.add]) (Nat.le_refl _) _ I.oks) (oks_all fun x hx => ?_)
      simp only [List.mem_singleton] at hx
      subst hx
      simp only [SV.ok]
      refine oks_all fun x hx => ?_
      obtain ⟨i, hi, rfl⟩ := List.mem_mapIdx.1 hx
      exact ok_sv (by simp only [PSt.add]; omega)
    · simp only [PSt.add]
      rw [dens_append, SV.dens_app _ (by rw [← I.ni, ← I.nb]; exact I.oks), I.dens]
      simp only [SV.dens, SV.den]
      rw [dens_mapIdx _ ks ns p.ni hl hn]
    · intro σ
      rw [Env.app_assoc]
      exact I.pre _
  | .slc ks, v, d, h => by
    obtain ⟨a, len, cap, L, hk, rfl, F, rfl⟩ := h
    have F1 := F.one hk
    generalize hx : (if ks.length = 1 then [] else [((len * ks.length : Nat) : Int)]) = x
    have hxl : x.length = if ks.length = 1 then 0 else 1 := by subst hx; split <;> rfl
    have hN : ∀ σ : Env, ((D.app ⟨[(len : Int), (cap : Int)] ++ x, [L], [(a.block, a.off)]⟩).app σ).is.getD p.ni 0 = len ∧ ((D.app ⟨[(len : Int), (cap : Int)] ++ x, [L], [(a.block, a.off)]⟩).app σ).is.getD (p.ni + 1) 0 = cap := by
      intro σ
      constructor <;> simp [Env.app, I.ni, List.getD]
    have hN2 : ks.length ≠ 1 → ∀ σ : Env, ((D.app ⟨[(len : Int), (cap : Int)] ++ x, [L], [(a.block, a.off)]⟩).app σ).is.getD (p.ni + 2) 0 = ((len * ks.length : Nat) : Int) := by
      intro h1 σ
      rw [if_neg h1] at hx
      subst hx
      simp [Env.app, I.ni, List.getD]
    have hLl : ∀ σ : Env, ((D.app ⟨[(len : Int), (cap : Int)] ++ x, [L], [(a.block, a.off)]⟩).app σ).ls.getD p.nl [] = L := by
      intro σ
      simp [Env.app, I.nl, List.getD]
    have hn := hN .nil
    have hn2 := fun h => hN2 h .nil
    have hl0 := hLl .nil
    rw [Env.app_nil] at hn hn2 hl0
    have hb : (D.app ⟨[(len : Int), (cap : Int)] ++ x, [L], [(a.block, a.off)]⟩).bs.getD p.nb (0, 0) = (a.block, a.off) := by
      simp only [Env.app, I.nb]; exact getD_app_at ..
    have hdl : (D.app ⟨[(len : Int), (cap : Int)] ++ x, [L], [(a.block, a.off)]⟩).is.length = p.ni + 2 + x.length := by simp [Env.app, I.ni]; omega
    have hle := F.le
    have hmax := F.max
    refine ⟨?_, by simp [PSt.add, Env.app, I.nl], by simp [PSt.add, Env.app, I.nb], ?_, ?_, ?_, ?_, ?_⟩
    · rw [hdl, hxl]
      simp only [PSt.add]
      by_cases h1 : ks.length = 1 <;> simp [h1]
    · intro r hr
      have key : r ∈ p.irng ∨ r = (p.ni, 0, 9223372036854775807) ∨ r = (p.ni + 1, 0, 9223372036854775807) ∨ (ks.length ≠ 1 ∧ r = (p.ni + 2, (0 : Int), (9223372036854775807 : Int) * ks.length)) := by
        simp only [PSt.add, List.mem_append, List.mem_cons, List.not_mem_nil, or_false] at hr
        by_cases h1 : ks.length = 1
        · simp only [h1, beq_self_eq_true, if_true, List.not_mem_nil, or_false] at hr
          rcases hr with hr | hr | hr
          · exact .inl hr
          · exact .inr (.inl hr)
          · exact .inr (.inr (.inl hr))
        · have hb1 : (ks.length == 1) = false := by simpa using h1
          simp only [hb1, Bool.false_eq_true, if_false, List.mem_singleton] at hr
          rcases hr with (hr | hr | hr) | hr
          · exact .inl hr
          · exact .inr (.inl hr)
          · exact .inr (.inr (.inl hr))
          · exact .inr (.inr (.inr ⟨h1, hr⟩))
      have hlt : (p.add (.slc ks)).ni = p.ni + (if ks.length = 1 then 2 else 3) := by
        simp [PSt.add]
      rcases key with hr | rfl | rfl | ⟨h1, rfl⟩
      · obtain ⟨a1, b, c⟩ := I.rng r hr
        rw [show (D.app ⟨[(len : Int), (cap : Int)] ++ x, [L], [(a.block, a.off)]⟩).is.getD r.1 0 = D.is.getD r.1 0 from getD_app (by rw [← I.ni]; exact a1)]
        refine ⟨?_, b, c⟩
        rw [hlt]; split <;> omega
      · refine ⟨?_, ?_, ?_⟩
        · rw [hlt]; simp only; split <;> omega
        · rw [hn.1]; simp only; omega
        · rw [hn.1]; simp only; omega
      · refine ⟨?_, ?_, ?_⟩
        · rw [hlt]; simp only; split <;> omega
        · rw [hn.2]; simp only; omega
        · rw [hn.2]; simp only; omega
      · refine ⟨?_, ?_, ?_⟩
        · rw [hlt, if_neg h1]; simp only; omega
        · rw [hn2 h1]; simp only; exact Int.natCast_nonneg _
        · rw [hn2 h1]; simp only
          have : ((len : Int)) * ks.length ≤ 9223372036854775807 * ks.length := Int.mul_le_mul_of_nonneg_right (by omega) (Int.natCast_nonneg _)
          simpa using this
    · intro e he
      simp only [PSt.add, List.mem_append, List.mem_singleton] at he
      rcases he with he | rfl
      · exact ⟨(I.hp e he).1, (I.hp e he).2.app _⟩
      · refine ⟨rfl, ?_⟩
        refine F1.ro (is := (D.app ⟨[(len : Int), (cap : Int)] ++ x, [L], [(a.block, a.off)]⟩).is) (ls := (D.app ⟨[(len : Int), (cap : Int)] ++ x, [L], [(a.block, a.off)]⟩).ls) (bs := (D.app ⟨[(len : Int), (cap : Int)] ++ x, [L], [(a.block, a.off)]⟩).bs) (by simp [Env.app, I.nb]) hb (by simp [Env.app, I.nl]) hl0 ?_ ?_
        · simp only [At.lt, decide_eq_true_eq, hdl, hxl]
          by_cases h1 : ks.length = 1 <;> simp [h1] <;> omega
        · simp only [At.den]
          by_cases h1 : ks.length = 1
          · simp only [h1, beq_self_eq_true, if_true]
            rw [hn.1, F.length, h1]; simp
          · have hb1 : (ks.length == 1) = false := by simpa using h1
            simp only [hb1, Bool.false_eq_true, if_false]
            rw [hn2 h1, F.length]
    · refine oks_append (SV.oks_mono (by simp [PSt.add]) (by simp [PSt.add]) _ I.oks) (oks_all fun y hy => ?_)
      simp only [List.mem_singleton] at hy
      subst hy
      simp only [SV.ok, At.lt, Bool.and_eq_true, PSt.add]
      by_cases h1 : ks.length = 1 <;> simp [h1]
    · simp only [PSt.add]
      rw [dens_append, SV.dens_app _ (by rw [← I.ni, ← I.nb]; exact I.oks), I.dens]
      simp only [SV.dens]
      have hv := F.val (is := (D.app ⟨[(len : Int), (cap : Int)] ++ x, [L], [(a.block, a.off)]⟩).is) (ls := (D.app ⟨[(len : Int), (cap : Int)] ++ x, [L], [(a.block, a.off)]⟩).ls) (n := p.nb) (la := .v p.ni) (ca := .v (p.ni + 1)) hb hn.1 hn.2
      exact congrArg (fun y => vs ++ [y]) hv
    · intro σ
      refine ⟨by rw [Env.app_assoc]; exact I.pre _, ?_⟩
      unfold slcPre
      rw [(hN σ).1, (hN σ).2, hLl σ]
      refine ⟨by omega, by omega, by rw [F.length]; simp, fun h1 => by rw [hN2 h1 σ]; simp, fun j hj => F1.typed j hj⟩
  | .nil, v, d, h => by
    obtain ⟨rfl, rfl⟩ := h
    rw [Env.app_nil]
    refine ⟨I.ni, I.nl, I.nb, I.rng, I.hp, ?_, ?_, I.pre⟩
    · exact oks_append I.oks (by rfl)
    · simp only [PSt.add]
      rw [dens_append, I.dens]
      rfl

theorem PInv.all {W : World} {base : Nat} {ro : List (Addr × Value)} : ∀ {ps : List Par} {p : PSt} {vs us : List Value} {D E : Env}, PInv W ro p vs D → ParsIs W base ps us E → PInv W ro (ps.foldl PSt.add p) (vs ++ us) (D.app E)
  | [], p, vs, us, D, E, I, h => by
    obtain ⟨rfl, rfl⟩ := h
    simpa [Env.app_nil] using I
  | q :: ps, p, vs, us, D, E, I, h => by
    obtain ⟨v, us', d, E', rfl, h1, h2, rfl⟩ := h
    have := PInv.all (I.add h1) h2
    rw [Env.app_assoc, List.append_assoc] at this
    exact this

/-- A law, by its contract. -/
theorem law_calls {P : Program} {ro : List (Addr × Value)} {f : FuncId} {ps : List Par} {q : List Int → Prop} (hs : ((lawSpec f ps).withPre q).Holds P ro) {fn : Func} {c : Code} (hf : P.funcs[f]? = some fn) (hb : fn.body = some c) (hn : plainName fn = true)
    {W : World} {base : Nat} {vs : List Value} {D : Env} (h : ParsIs W base ps vs D) (hq : q D.is) (hro : ∀ p ∈ ro, W.cell? p.1 = some p.2 ∧ p.1.block < W.heap.size) :
    Calls P f vs.toArray W fun e W' => e = .returned (.bool true) ∧ Frame ⟨W, [], ro⟩ W' := by
  have I : PInv W ro (ps.foldl PSt.add {}) vs D := by
    have := PInv.all (PInv.start W ro) h
    simpa [Env.app, Env.nil] using this
  have := FSpec.law2 hs hf hb hn rfl D.is D.ls D.bs hro ⟨I.ni.symm, I.nl.symm, I.nb.symm⟩ I.rng rfl I.hp I.oks ⟨(by have := I.pre .nil; rw [Env.app_nil] at this; exact this), hq⟩
  rw [show SV.dens ⟨D.is, D.ls, D.bs⟩ ((lawSpec f ps).withPre q).args = vs from I.dens] at this
  exact this

section
variable {H : Type} {enc : TypeId × Value → H} {P : Program} {w : World} {base : Nat} {spare : Nat → Bool} {held : Bool} {r : Reach} {b0 : Nat} {t : TypeId} {v : Value} {d : DataW H} {ps : List MemPlace}
theorem par_int {k : IntKind} (ht : P.underlying t = some (.int k)) (hval : Value.okWide P w r b0 t v) (hd : DataW.Trod enc P w base spare held t v d ps) : ∃ n, ParIs w base (.one (.i k)) v ⟨[n], [], []⟩ := by
  obtain ⟨n, rfl, -, -, h⟩ := open_int ht hval hd
  have := wf_range h
  exact ⟨n, n, rfl, this.1, this.2, rfl⟩
theorem par_bool (ht : P.underlying t = some .bool) (hval : Value.okWide P w r b0 t v) (hd : DataW.Trod enc P w base spare held t v d ps) : ∃ n, ParIs w base (.one .b) v ⟨[n], [], []⟩ := by
  obtain ⟨b, rfl, -, -⟩ := open_bool ht hval hd
  refine ⟨b2i b, b2i b, ?_, ?_, ?_, rfl⟩ <;> cases b <;> first | rfl | decide
theorem par_flat {f : Nat} {ks : List CK} (hag : (match P.underlying t with | some (.struct _) => true | some (.array _ _) => true | _ => false) = true) (hf : flatT P f t = some ks)
    (hval : Value.okWide P w r b0 t v) (hd : DataW.Trod enc P w base spare held t v d ps) : ∃ d, ParIs w base (.agg ks) v d := by
  obtain ⟨ns, h1, h2⟩ := open_flat hag hf hval hd
  exact ⟨_, ns, h1, h2, rfl⟩
theorem par_flats {f : Nat} {e : TypeId} {ks : List CK} (ht : P.underlying t = some (.slice e)) (hf : flatT P f e = some ks) (hc : P.cellsOf e = ks.length) (hk : 0 < ks.length)
    (hval : Value.okWide P w r b0 t v) (hd : DataW.Trod enc P w base spare held t v d ps) : ParIs w base .nil v .nil ∨ ∃ d, ParIs w base (.slc ks) v d := by
  rcases open_flats ht hf hc hk hd hval with h | ⟨a, len, cap, L, h, F⟩
  · exact .inl ⟨h, rfl⟩
  · exact .inr ⟨_, a, len, cap, L, hk, h, F, rfl⟩
end
end Go.Sx
/- A law's arguments, five of them. -/
set_option linter.unusedVariables false
namespace Go.Sx
open Go.ChangeShapes
theorem trodAll_five {H : Type} {enc : TypeId × Value → H} {P : Program} {w : World} {base : Nat} {spare : Nat → Bool} {held : Bool} {t t' t'' t3 t4 : TypeId} {args : Array Value} {ds : List (DataW H)} {ps : List MemPlace}
    (h : DataW.TrodAll enc P w base spare held [t, t', t'', t3, t4] args.toList ds ps) :
    ∃ v v' v'' v3 v4 d d' d'' d3 d4 p p' p'' p3 p4, args = #[v, v', v'', v3, v4] ∧ ds = [d, d', d'', d3, d4] ∧ ps = p ++ p' ++ p'' ++ p3 ++ p4 ∧ DataW.Trod enc P w base spare held t v d p ∧ DataW.Trod enc P w base spare held t' v' d' p' ∧ DataW.Trod enc P w base spare held t'' v'' d'' p'' ∧ DataW.Trod enc P w base spare held t3 v3 d3 p3 ∧ DataW.Trod enc P w base spare held t4 v4 d4 p4 := by
  obtain ⟨v, vs, d, ds', p, q, hargs, rfl, rfl, hd, hrest⟩ := trodAll_cons h
  obtain ⟨v', vs', d', ds'', p', q', rfl, rfl, rfl, hd', hrest'⟩ := trodAll_cons hrest
  obtain ⟨v'', vs'', d'', ds''', p'', q'', rfl, rfl, rfl, hd'', hrest''⟩ := trodAll_cons hrest'
  obtain ⟨v3, vs3, d3, ds3, p3, q3, rfl, rfl, rfl, hd3, hrest3⟩ := trodAll_cons hrest''
  obtain ⟨v4, vs4, d4, ds4, p4, q4, rfl, rfl, rfl, hd4, hrest4⟩ := trodAll_cons hrest3
  obtain ⟨rfl, rfl, rfl⟩ := trodAll_nil hrest4
  exact ⟨v, v', v'', v3, v4, d, d', d'', d3, d4, p, p', p'', p3, p4, by cases args; simp_all, rfl, by simp, hd, hd', hd'', hd3, hd4⟩
end Go.Sx
/- What the proofs about trees use, at any seat. -/
set_option linter.unusedVariables false
namespace Go.Sx
/-- With one number's range narrowed. -/
def FSpec.withRng (s : FSpec) (i : Nat) (lo hi : Int) : FSpec := { s with irng := (i, lo, hi) :: s.irng }
/-- A contract, by the ranges of a number. -/
theorem holds_split {P : Program} {ro : List (Addr × Value)} {s : FSpec} (i : Nat) (hi : i < s.ni) (hs : ∀ x : Int, (∀ r ∈ s.irng, r.1 = i → r.2.1 ≤ x ∧ x ≤ r.2.2) → ∃ lo hi, lo ≤ x ∧ x ≤ hi ∧ (s.withRng i lo hi).Holds P ro) : s.Holds P ro := by
  intro w ρ hro rep hok hpre
  have f0 := rep.facts .nil
  rw [Env.app_nil] at f0
  obtain ⟨lo, hi', h1, h2, hh⟩ := hs (ρ.is.getD i 0) fun r hr e => by
    have := f0.rng r hr
    rw [e] at this
    exact this
  have hl : i < ρ.is.length := by rw [rep.ni]; exact hi
  have rep' : RepH ((s.withRng i lo hi').ctx ρ w ro) ρ (s.withRng i lo hi').H0 w := by
    refine ⟨rep.ni, rep.nl, rep.nb, fun σ => ?_, rep.frame⟩
    have f := rep.facts σ
    refine ⟨f.heap, f.nodup, fun r hr => ?_, f.defs, f.lrng⟩
    rcases List.mem_cons.1 hr with rfl | hr
    · rw [show (ρ.app σ).is.getD i 0 = ρ.is.getD i 0 from getD_app hl]
      exact ⟨h1, h2⟩
    · exact f.rng r hr
  have := hh w ρ hro rep' hok hpre
  refine this.mono ?_
  rintro v w' ⟨τ, hp⟩
  exact ⟨τ, ⟨hp.li, hp.ll, hp.lb, hp.rel, hp.val, hp.rep⟩⟩
theorem exe_withPre (s : FSpec) (q : List Int → Prop) : (s.withPre q).exe = s.exe := rfl
theorem exe_withPre_rng (s : FSpec) (q : List Int → Prop) (i : Nat) (lo hi : Int) : ((s.withPre q).withRng i lo hi).exe = (s.withRng i lo hi).exe := rfl
/-- The first contract that fits. -/
def either (s : FSpec) (t : Spec) : Spec := ⟨s.f, fun args h k => if s.fits args h (s.guess args h) then s.run args h k else t.run args h k⟩
theorem either_ok {P : Program} {ro : List (Addr × Value)} {s : FSpec} {t : Sx.Spec} (hs : s.Holds P ro) (ht : t.Ok P ro) (hf : t.f = s.f) : (either s t).Ok P ro := by
  intro Φ C ρ h w args k K hro hok r hd hk
  unfold either at hd
  simp only at hd
  split at hd
  · exact FSpec.run_ok hs Φ C ρ h w args k K hro hok r hd hk
  · have := ht Φ C ρ h w args k K hro hok r hd hk
    rw [hf] at this
    exact this
/-- A tree that asks nothing. -/
def Tree.calm : Tree → Bool
  | .done _ _ => true
  | .letI _ t => t.calm
  | .letL _ t => t.calm
  | .ite _ t e => t.calm && e.calm
  | .both a b => a.calm && b.calm
  | .any _ _ t => t.calm
  | _ => false
theorem calm_ok {Φ : Phi} (hΦ : ∀ xs ls, Φ.post xs ls) : ∀ (t : Tree) (is : List Int) (lls : List (List Int)), t.calm = true → t.den Φ is lls
  | .done _ _, _, _, _ => by simp only [Tree.den]; exact hΦ _ _
  | .letI _ t, is, lls, h => by simp only [Tree.den]; exact fun x _ => calm_ok hΦ t _ _ h
  | .letL _ t, is, lls, h => by simp only [Tree.den]; exact fun x _ => calm_ok hΦ t _ _ h
  | .ite _ t e, is, lls, h => by
    simp only [Tree.calm, Bool.and_eq_true] at h
    simp only [Tree.den]
    exact ⟨fun _ => calm_ok hΦ t _ _ h.1, fun _ => calm_ok hΦ e _ _ h.2⟩
  | .both a b, is, lls, h => by
    simp only [Tree.calm, Bool.and_eq_true] at h
    simp only [Tree.den]
    exact ⟨calm_ok hΦ a _ _ h.1, calm_ok hΦ b _ _ h.2⟩
  | .any _ _ t, is, lls, h => by simp only [Tree.den]; exact fun x _ _ => calm_ok hΦ t _ _ h
  | .fail _, _, _, h => by cases h
  | .need .., _, _, h => by cases h
  | .call .., _, _, h => by cases h
  | .loop .., _, _, h => by cases h
  | .again .., _, _, h => by cases h
  | .exit .., _, _, h => by cases h
/-- A call that asks nothing and tells nothing. -/
theorem call_none {Φ : Phi} {f : FuncId} {t : Tree} {is : List Int} {lls : List (List Int)} : (Tree.call f ⟨(fun _ _ => True), (fun _ _ _ _ => True)⟩ [] [] 0 0 t).den Φ is lls ↔ t.den Φ is lls := by
  simp only [Tree.den]
  constructor
  · intro h
    have := h.2 [] [] rfl rfl trivial
    simpa using this
  · intro h
    refine ⟨trivial, fun xs ys hx hy _ => ?_⟩
    obtain rfl := List.length_eq_zero_iff.1 hx
    obtain rfl := List.length_eq_zero_iff.1 hy
    simpa using h
/-- A call of a function of numbers to one number. -/
theorem call_fn {Φ : Phi} {f : FuncId} {t : Tree} {F : List Int → Int} {as : List At} {is : List Int} {lls : List (List Int)} :
    (Tree.call f ⟨(fun _ _ => True), (fun is _ xs _ => xs = [F is])⟩ as [] 1 0 t).den Φ is lls ↔ t.den Φ (is ++ [F (as.map (·.den is))]) lls := by
  simp only [Tree.den]
  constructor
  · intro h
    have := h.2 [F (as.map (·.den is))] [] rfl rfl rfl
    simpa using this
  · intro h
    refine ⟨trivial, fun xs ys hx hy e => ?_⟩
    have e' : xs = [F (as.map (·.den is))] := e
    subst e'
    obtain rfl := List.length_eq_zero_iff.1 hy
    simpa using h
theorem list0 {l' : List Int} (h : l'.length = 0) : l' = [] := by
  exact List.length_eq_zero_iff.1 h
theorem list1 {l' : List Int} (h : l'.length = 1) : ∃ a, l' = [a] := by
  match l', h with
  | [a], _ => exact ⟨a, rfl⟩
theorem list2 {l' : List Int} (h : l'.length = 2) : ∃ a b, l' = [a, b] := by
  match l', h with
  | [a, b], _ => exact ⟨a, b, rfl⟩
theorem list3 {l' : List Int} (h : l'.length = 3) : ∃ a b c, l' = [a, b, c] := by
  match l', h with
  | [a, b, c], _ => exact ⟨a, b, c, rfl⟩
theorem list4 {l' : List Int} (h : l'.length = 4) : ∃ a b c d, l' = [a, b, c, d] := by
  match l', h with
  | [a, b, c, d], _ => exact ⟨a, b, c, d, rfl⟩
theorem list5 {l' : List Int} (h : l'.length = 5) : ∃ a b c d e, l' = [a, b, c, d, e] := by
  match l', h with
  | [a, b, c, d, e], _ => exact ⟨a, b, c, d, e, rfl⟩
theorem list6 {l' : List Int} (h : l'.length = 6) : ∃ a b c d e f, l' = [a, b, c, d, e, f] := by
  match l', h with
  | [a, b, c, d, e, f], _ => exact ⟨a, b, c, d, e, f, rfl⟩
theorem list7 {l' : List Int} (h : l'.length = 7) : ∃ a b c d e f g, l' = [a, b, c, d, e, f, g] := by
  match l', h with
  | [a, b, c, d, e, f, g], _ => exact ⟨a, b, c, d, e, f, g, rfl⟩
theorem list8 {l' : List Int} (h : l'.length = 8) : ∃ a b c d e f g i, l' = [a, b, c, d, e, f, g, i] := by
  match l', h with
  | [a, b, c, d, e, f, g, i], _ => exact ⟨a, b, c, d, e, f, g, i, rfl⟩
theorem list9 {l' : List Int} (h : l'.length = 9) : ∃ a b c d e f g i j, l' = [a, b, c, d, e, f, g, i, j] := by
  match l', h with
  | [a, b, c, d, e, f, g, i, j], _ => exact ⟨a, b, c, d, e, f, g, i, j, rfl⟩
theorem list10 {l' : List Int} (h : l'.length = 10) : ∃ a b c d e f g i j k, l' = [a, b, c, d, e, f, g, i, j, k] := by
  match l', h with
  | [a, b, c, d, e, f, g, i, j, k], _ => exact ⟨a, b, c, d, e, f, g, i, j, k, rfl⟩
theorem list11 {l' : List Int} (h : l'.length = 11) : ∃ a b c d e f g i j k l, l' = [a, b, c, d, e, f, g, i, j, k, l] := by
  match l', h with
  | [a, b, c, d, e, f, g, i, j, k, l], _ => exact ⟨a, b, c, d, e, f, g, i, j, k, l, rfl⟩
theorem list12 {l' : List Int} (h : l'.length = 12) : ∃ a b c d e f g i j k l m, l' = [a, b, c, d, e, f, g, i, j, k, l, m] := by
  match l', h with
  | [a, b, c, d, e, f, g, i, j, k, l, m], _ => exact ⟨a, b, c, d, e, f, g, i, j, k, l, m, rfl⟩
theorem list13 {l' : List Int} (h : l'.length = 13) : ∃ a b c d e f g i j k l m n, l' = [a, b, c, d, e, f, g, i, j, k, l, m, n] := by
  match l', h with
  | [a, b, c, d, e, f, g, i, j, k, l, m, n], _ => exact ⟨a, b, c, d, e, f, g, i, j, k, l, m, n, rfl⟩
end Go.Sx
/- The meaning of a tree, with every number and list by itself. -/
set_option linter.unusedVariables false
namespace Go.Sx
/-- For all lists of n numbers. -/
def allV {α : Type} : Nat → (List α → Prop) → Prop
  | 0, p => p []
  | n + 1, p => ∀ x, allV n fun xs => p (x :: xs)
theorem allV_iff {α : Type} : ∀ (n : Nat) (p : List α → Prop), allV n p ↔ ∀ xs : List α, xs.length = n → p xs
  | 0, p => by
    constructor
    · intro h xs hx
      obtain rfl := List.length_eq_zero_iff.1 hx
      exact h
    · intro h
      exact h [] rfl
  | n + 1, p => by
    constructor
    · intro h xs hx
      cases xs with
      | nil => cases hx
      | cons x xs => exact (allV_iff n _).1 (h x) xs (by simpa using hx)
    · intro h x
      exact (allV_iff n _).2 fun xs hx => h _ (by simpa using hx)
/-- A number, by the list of all numbers from the last one on. -/
def At.dr (n : Nat) (r : List Int) : At → Int
  | .c k => k
  | .v i => bif Nat.blt i n then r.getD (n - 1 - i) 0 else 0
def listR (m : Nat) (s : List (List Int)) (l : Nat) : List Int := bif Nat.blt l m then s.getD (m - 1 - l) [] else []
theorem getD_rev {α : Type} (l : List α) (i : Nat) (d : α) : (bif Nat.blt i l.length then l.reverse.getD (l.length - 1 - i) d else d) = l.getD i d := by
  by_cases h : i < l.length
  · have hb : Nat.blt i l.length = true := by simpa using h
    rw [hb]
    simp only [cond_true, List.getD_eq_getElem?_getD]
    rw [List.getElem?_reverse (by omega)]
    have : l.length - 1 - (l.length - 1 - i) = i := by omega
    rw [this]
  · have hb : Nat.blt i l.length = false := by
      cases e : Nat.blt i l.length with
      | false => rfl
      | true => exact absurd (by simpa using e) h
    rw [hb]
    simp only [cond_false, List.getD_eq_getElem?_getD]
    rw [List.getElem?_eq_none (by omega)]
    rfl
theorem At.dr_eq (is : List Int) (a : At) : a.dr is.length is.reverse = a.den is := by
  cases a with
  | c k => rfl
  | v i => exact getD_rev is i 0
theorem listR_eq (ls : List (List Int)) (l : Nat) : listR ls.length ls.reverse l = ls.getD l [] := getD_rev ls l []
def cmpP (op : BinOp) (x y : Int) : Prop :=
  match op with
  | .eql => x = y
  | .neq => x ≠ y
  | .lss => x < y
  | .leq => x ≤ y
  | .gtr => y < x
  | .geq => y ≤ x
  | _ => False
def cmpN (op : BinOp) (x y : Int) : Prop :=
  match op with
  | .eql => x ≠ y
  | .neq => x = y
  | .lss => y ≤ x
  | .leq => y < x
  | .gtr => x ≤ y
  | .geq => x < y
  | _ => True
theorem cmpP_ok (op : BinOp) (x y : Int) : cmpP op x y ↔ cmpB op x y = true := by
  cases op <;> simp [cmpP, cmpB]
theorem cmpN_ok (op : BinOp) (x y : Int) : cmpN op x y ↔ cmpB op x y = false := by
  cases op <;> simp [cmpN, cmpB]
def IOp.val (f : At → Int) (g : Nat → List Int) : IOp → Int
  | .add a b => f a + f b
  | .sub a b => f a - f b
  | .mul a b => f a * f b
  | .wr k a => k.wrap (f a)
  | .quo k a b => k.wrap ((f a).tdiv (f b))
  | .rem a b => (f a).tmod (f b)
  | .bit op k a b => bitDen op k (f a) (f b)
  | .shl k a b => k.wrap (f a * 2 ^ (min (f b).toNat k.bits))
  | .shr k a b => (f a).fdiv (2 ^ (min (f b).toNat k.bits))
  | .get l a => (g l).getD (f a).toNat 0
  | .len l => (g l).length
  | .cmp op a b => b2i (cmpB op (f a) (f b))
  | .not a => b2i (f a == 0)
  | .mn a b => if f b < f a then f b else f a
  | .mx a b => if f b > f a then f b else f a
  | .pick c a b => if f c = 0 then f b else f a
theorem IOp.val_eq (o : IOp) (is : List Int) (ls : List (List Int)) : o.val (At.den is) (fun l => ls.getD l []) = o.den is ls := by cases o <;> rfl
def LOp.val (f : At → Int) (g : Nat → List Int) : LOp → List Int
  | .set l i v => (g l).set (f i).toNat (f v)
  | .lit xs => xs.map f
  | .rep n v => List.replicate (f n).toNat (f v)
  | .push l v => g l ++ [f v]
  | .take l n => (g l).take (f n).toNat
  | .drop l n => (g l).drop (f n).toNat
  | .app l m => g l ++ g m
  | .put l n m => putL (g l) (f n).toNat (g m)
theorem LOp.val_eq (o : LOp) (is : List Int) (ls : List (List Int)) : o.val (At.den is) (fun l => ls.getD l []) = o.den is ls := by cases o <;> rfl
def Tree.dn (Φ : Phi) : Tree → Nat → List Int → Nat → List (List Int) → Prop
  | .fail _, _, _, _, _ => False
  | .done xs ls, n, r, m, s => Φ.post (xs.map (At.dr n r)) (ls.map (listR m s))
  | .letI (.cmp op a b) (.ite (.v i) t e), n, r, m, s =>
    bif Nat.beq i n then (cmpP op (a.dr n r) (b.dr n r) → t.dn Φ (n + 1) (1 :: r) m s) ∧ (cmpN op (a.dr n r) (b.dr n r) → e.dn Φ (n + 1) (0 :: r) m s)
    else ∀ x, x = b2i (cmpB op (a.dr n r) (b.dr n r)) → ((At.v i).dr (n + 1) (x :: r) ≠ 0 → t.dn Φ (n + 1) (x :: r) m s) ∧ ((At.v i).dr (n + 1) (x :: r) = 0 → e.dn Φ (n + 1) (x :: r) m s)
  | .letI o t, n, r, m, s => ∀ x, x = o.val (At.dr n r) (listR m s) → t.dn Φ (n + 1) (x :: r) m s
  | .letL o t, n, r, m, s => ∀ x, x = o.val (At.dr n r) (listR m s) → t.dn Φ n r (m + 1) (x :: s)
  | .ite a t e, n, r, m, s => (a.dr n r ≠ 0 → t.dn Φ n r m s) ∧ (a.dr n r = 0 → e.dn Φ n r m s)
  | .need op a b t, n, r, m, s => cmpP op (a.dr n r) (b.dr n r) ∧ t.dn Φ n r m s
  | .call _ q ins lins ni nl t, n, r, m, s =>
    q.pre (ins.map (At.dr n r)) (lins.map (listR m s)) ∧
    allV ni fun xs => allV nl fun ys => q.post (ins.map (At.dr n r)) (lins.map (listR m s)) xs ys → t.dn Φ (n + ni) (xs.reverseAux r) (m + nl) (ys.reverseAux s)
  | .loop ents lents body, n, r, m, s =>
    ∃ (I : List Int → List (List Int) → Prop) (μ : List Int → List (List Int) → Nat),
      I (ents.map (At.dr n r)) (lents.map (listR m s)) ∧
      allV ents.length fun xs => allV lents.length fun ys => I xs ys →
        body.dn (Φ.push fun xs' ys' => I xs' ys' ∧ μ xs' ys' < μ xs ys) (n + ents.length) (xs.reverseAux r) (m + lents.length) (ys.reverseAux s)
  | .again xs ls, n, r, m, s => Φ.top (xs.map (At.dr n r)) (ls.map (listR m s))
  | .exit t, n, r, m, s => t.dn Φ.pop n r m s
  | .both a b, n, r, m, s => a.dn Φ n r m s ∧ b.dn Φ n r m s
  | .any lo hi t, n, r, m, s => ∀ x, lo.dr n r ≤ x → x ≤ hi.dr n r → t.dn Φ (n + 1) (x :: r) m s
theorem map_dr (is : List Int) (xs : List At) : xs.map (At.dr is.length is.reverse) = xs.map (·.den is) := List.map_congr_left fun a _ => At.dr_eq is a
theorem map_listR (ls : List (List Int)) (xs : List Nat) : xs.map (listR ls.length ls.reverse) = xs.map fun l => ls.getD l [] := List.map_congr_left fun a _ => listR_eq ls a
theorem dr_fun (is : List Int) : At.dr is.length is.reverse = At.den is := funext (At.dr_eq is)
theorem listR_fun (ls : List (List Int)) : listR ls.length ls.reverse = fun l => ls.getD l [] := funext (listR_eq ls)
theorem b2i_ne (b : Bool) : (b2i b ≠ 0) = (b = true) := by cases b <;> simp [b2i]
theorem b2i_eq (b : Bool) : (b2i b = 0) = (b = false) := by cases b <;> simp [b2i]
theorem dn_den (Φ : Phi) (t : Tree) (is : List Int) (lls : List (List Int)) (h : t.dn Φ is.length is.reverse lls.length lls.reverse) : t.den Φ is lls := by
  have snoc : ∀ {α : Type} (l : List α) (x : α), (l ++ [x]).length = l.length + 1 ∧ (l ++ [x]).reverse = x :: l.reverse := fun l x => by simp
  have app : ∀ {α : Type} (l xs : List α), (l ++ xs).length = l.length + xs.length ∧ (l ++ xs).reverse = xs.reverseAux l.reverse := fun l xs => by simp [List.reverseAux_eq]
  have key : ∀ (N : Nat) (t : Tree), SizeOf.sizeOf t < N → ∀ (Φ : Phi) (is : List Int) (lls : List (List Int)), t.dn Φ is.length is.reverse lls.length lls.reverse → t.den Φ is lls := by
    intro N
    induction N with
    | zero => intro t h; omega
    | succ N ih =>
      intro t hN Φ is lls h
      cases t with
      | fail n => simp only [Tree.dn] at h
      | done xs ls => simp only [Tree.dn, map_dr, map_listR] at h; simpa only [Tree.den] using h
      | «letI» o t =>
        simp only [Tree.letI.sizeOf_spec] at hN
        have gen : (∀ x, x = o.val (At.dr is.length is.reverse) (listR lls.length lls.reverse) → t.dn Φ (is.length + 1) (x :: is.reverse) lls.length lls.reverse) → (Tree.letI o t).den Φ is lls := by
          intro h
          simp only [Tree.den]
          intro x e
          refine ih t (by omega) Φ _ _ ?_
          rw [(snoc is x).1, (snoc is x).2]
          refine h x ?_
          rw [dr_fun, listR_fun, IOp.val_eq]
          exact e
        by_cases hc : ∃ op a b i t1 e1, o = .cmp op a b ∧ t = .ite (.v i) t1 e1
        · obtain ⟨op, a, b, i, t1, e1, rfl, rfl⟩ := hc
          simp only [Tree.dn] at h
          simp only [Tree.ite.sizeOf_spec] at hN
          simp only [Tree.den]
          intro x e
          have e' : x = b2i (cmpB op (a.den is) (b.den is)) := e
          cases hb : Nat.beq i is.length with
          | true =>
            rw [hb] at h
            simp only [cond_true, At.dr_eq] at h
            have hi : i = is.length := by simpa using hb
            have hx : At.den (is ++ [x]) (.v i) = x := by simp [At.den, hi]
            rw [hx]
            constructor
            · intro hne
              rw [e', b2i_ne] at hne
              have := h.1 ((cmpP_ok _ _ _).2 hne)
              have hx1 : x = 1 := by rw [e', hne]; rfl
              rw [hx1]
              refine ih t1 (by omega) Φ _ _ ?_
              rw [(snoc is 1).1, (snoc is 1).2]
              exact this
            · intro hne
              rw [e', b2i_eq] at hne
              have := h.2 ((cmpN_ok _ _ _).2 hne)
              have hx1 : x = 0 := by rw [e', hne]; rfl
              rw [hx1]
              refine ih e1 (by omega) Φ _ _ ?_
              rw [(snoc is 0).1, (snoc is 0).2]
              exact this
          | false =>
            rw [hb] at h
            simp only [cond_false, At.dr_eq] at h
            have h' := h x e'
            rw [← (snoc is x).1, ← (snoc is x).2, At.dr_eq] at h'
            exact ⟨fun c => ih t1 (by omega) Φ _ _ (h'.1 c), fun c => ih e1 (by omega) Φ _ _ (h'.2 c)⟩
        · refine gen ?_
          rw [Tree.dn] at h
          · exact h
          · intro op a b i t1 e1 h1 h2
            exact hc ⟨op, a, b, i, t1, e1, h1, h2⟩
      | letL o t =>
        simp only [Tree.letL.sizeOf_spec] at hN
        simp only [Tree.dn] at h
        simp only [Tree.den]
        intro x e
        refine ih t (by omega) Φ _ _ ?_
        rw [(snoc lls x).1, (snoc lls x).2]
        refine h x ?_
        rw [dr_fun, listR_fun, LOp.val_eq]
        exact e
      | ite a t e =>
        simp only [Tree.ite.sizeOf_spec] at hN
        simp only [Tree.dn, At.dr_eq] at h
        simp only [Tree.den]
        exact ⟨fun c => ih t (by omega) Φ _ _ (h.1 c), fun c => ih e (by omega) Φ _ _ (h.2 c)⟩
      | need op a b t =>
        simp only [Tree.need.sizeOf_spec] at hN
        simp only [Tree.dn, At.dr_eq] at h
        simp only [Tree.den]
        exact ⟨(cmpP_ok _ _ _).1 h.1, ih t (by omega) Φ _ _ h.2⟩
      | call f q ins lins ni nl t =>
        simp only [Tree.call.sizeOf_spec] at hN
        simp only [Tree.dn, map_dr, map_listR] at h
        simp only [Tree.den]
        refine ⟨h.1, fun xs ys h1 h2 hp => ?_⟩
        have := (allV_iff nl _).1 ((allV_iff ni _).1 h.2 xs h1) ys h2 hp
        refine ih t (by omega) Φ _ _ ?_
        rw [(app is xs).1, (app is xs).2, (app lls ys).1, (app lls ys).2, h1, h2]
        exact this
      | loop ents lents body =>
        simp only [Tree.loop.sizeOf_spec] at hN
        simp only [Tree.dn, map_dr, map_listR] at h
        simp only [Tree.den]
        obtain ⟨I, μ, h1, h2⟩ := h
        refine ⟨I, μ, h1, fun xs ys e1 e2 hI => ?_⟩
        have := (allV_iff _ _).1 ((allV_iff _ _).1 h2 xs e1) ys e2 hI
        refine ih body (by omega) _ _ _ ?_
        rw [(app is xs).1, (app is xs).2, (app lls ys).1, (app lls ys).2, e1, e2]
        exact this
      | again xs ls => simp only [Tree.dn, map_dr, map_listR] at h; simpa only [Tree.den] using h
      | exit t =>
        simp only [Tree.exit.sizeOf_spec] at hN
        simp only [Tree.dn] at h
        simp only [Tree.den]
        exact ih t (by omega) _ _ _ h
      | both a b =>
        simp only [Tree.both.sizeOf_spec] at hN
        simp only [Tree.dn] at h
        simp only [Tree.den]
        exact ⟨ih a (by omega) _ _ _ h.1, ih b (by omega) _ _ _ h.2⟩
      | any lo hi t =>
        simp only [Tree.any.sizeOf_spec] at hN
        simp only [Tree.dn, At.dr_eq] at h
        simp only [Tree.den]
        intro x h1 h2
        refine ih t (by omega) Φ _ _ ?_
        rw [(snoc is x).1, (snoc is x).2]
        exact h x h1 h2
  exact key _ t (Nat.lt_succ_self _) Φ is lls h
/-- A contract, by the tree's meaning. -/
theorem FSpec.holdsN {P : Program} {cfg : Cfg} (anns : List LoopAnn) (rounds fuel : Nat) {s : FSpec} (hcfg : cfg.Ok P) (hmix : P.follows .mixedOrders = true) {t : Tree} (ht : s.exe P cfg anns rounds fuel = t)
    (hT : ∀ (is : List Int) (ls : List (List Int)), is.length = s.ni → ls.length = s.nl → s.rel.pre is ls → (∀ r ∈ s.irng, r.2.1 ≤ is.getD r.1 0 ∧ is.getD r.1 0 ≤ r.2.2) → (∀ r ∈ s.ilrng, ∀ x ∈ ls.getD r.1 [], r.2.1 ≤ x ∧ x ≤ r.2.2) →
      t.dn ⟨s.rel.post is ls, []⟩ is.length is.reverse ls.length ls.reverse) : s.Holds P cfg.ro :=
  FSpec.holds anns rounds fuel hcfg hmix fun is ls h1 h2 h3 h4 h5 => by rw [ht]; exact dn_den _ _ _ _ (hT is ls h1 h2 h3 h4 h5)
end Go.Sx
namespace Go.Sx
/-- The ranges, one by one. -/
def rngAll (is : List Int) : List (Nat × Int × Int) → Prop
  | [] => True
  | r :: l => (r.2.1 ≤ is.getD r.1 0 ∧ is.getD r.1 0 ≤ r.2.2) ∧ rngAll is l
def lrngAll (ls : List (List Int)) : List (Nat × Int × Int) → Prop
  | [] => True
  | r :: l => (∀ x ∈ ls.getD r.1 [], r.2.1 ≤ x ∧ x ≤ r.2.2) ∧ lrngAll ls l
theorem rngAll_of (is : List Int) : ∀ (l : List (Nat × Int × Int)), (∀ r ∈ l, r.2.1 ≤ is.getD r.1 0 ∧ is.getD r.1 0 ≤ r.2.2) → rngAll is l
  | [], _ => trivial
  | r :: l, h => ⟨h r (List.mem_cons_self ..), rngAll_of is l fun q hq => h q (List.mem_cons_of_mem _ hq)⟩
theorem lrngAll_of (ls : List (List Int)) : ∀ (l : List (Nat × Int × Int)), (∀ r ∈ l, ∀ x ∈ ls.getD r.1 [], r.2.1 ≤ x ∧ x ≤ r.2.2) → lrngAll ls l
  | [], _ => trivial
  | r :: l, h => ⟨h r (List.mem_cons_self ..), lrngAll_of ls l fun q hq => h q (List.mem_cons_of_mem _ hq)⟩
/-- A contract, by the tree's meaning: for all numbers and lists one by one. -/
theorem FSpec.holdsV {P : Program} {cfg : Cfg} (anns : List LoopAnn) (rounds fuel : Nat) {s : FSpec} (hcfg : cfg.Ok P) (hmix : P.follows .mixedOrders = true) {t : Tree} (ht : s.exe P cfg anns rounds fuel = t)
    (hT : allV s.ni fun is => allV s.nl fun ls => s.rel.pre is ls → rngAll is s.irng → lrngAll ls s.ilrng → t.dn ⟨s.rel.post is ls, []⟩ s.ni is.reverse s.nl ls.reverse) : s.Holds P cfg.ro :=
  FSpec.holdsN anns rounds fuel hcfg hmix ht fun is ls h1 h2 h3 h4 h5 => by
    have := (allV_iff _ _).1 ((allV_iff _ _).1 hT is h1) ls h2 h3 (rngAll_of _ _ h4) (lrngAll_of _ _ h5)
    rw [h1, h2]
    exact this
end Go.Sx
namespace Go.Sx
theorem wrapU (n : Int) : IntKind.wrap .u64 n = n % 18446744073709551616 := by
  simp [IntKind.wrap, IntKind.bits, IntKind.signed]
theorem wrapI (n : Int) : IntKind.wrap .i64 n = (n + 9223372036854775808) % 18446744073709551616 - 9223372036854775808 := by
  simp only [IntKind.wrap, IntKind.bits, IntKind.signed, Bool.true_and]
  split <;> rename_i h <;> simp at h <;> omega
end Go.Sx
namespace Go.Sx
/-- The rest made positive, as programs write it. -/
theorem modN (a n : Int) (hn : 0 < n) : 0 ≤ (a.tmod n + n).tmod n ∧ (a.tmod n + n).tmod n < n := by
  have h := tmod_bd a hn
  exact ⟨Int.tmod_nonneg _ (by omega), Int.tmod_lt_of_pos _ hn⟩
end Go.Sx
namespace Go.Sx
theorem holds_withPre {P : Program} {ro : List (Addr × Value)} {s : FSpec} (q : List Int → Prop) (h : s.Holds P ro) : (s.withPre q).Holds P ro := by
  intro w ρ hro rep hok hpre
  have := h w ρ hro ⟨rep.ni, rep.nl, rep.nb, fun σ => ⟨(rep.facts σ).heap, (rep.facts σ).nodup, (rep.facts σ).rng, (rep.facts σ).defs, (rep.facts σ).lrng⟩, rep.frame⟩ hok hpre.1
  refine this.mono ?_
  rintro v w' ⟨τ, hp⟩
  exact ⟨τ, ⟨hp.li, hp.ll, hp.lb, hp.rel, hp.val, hp.rep⟩⟩
end Go.Sx
/- What the program's functions of numbers compute: words of calls, rights, entries as words. -/
set_option linter.unusedVariables false
namespace Go.Sx
/-- A contract of a function of numbers to numbers. -/
def fnSpec (f : FuncId) (ps : List Par) (ri : Nat) (res : Nat → SV) (orng : Nat → List (Nat × Int × Int)) (F : List Int → List Int) : FSpec :=
  let p := ps.foldl PSt.add {}
  { f := f, ni := p.ni, nl := 0, nb := 0, args := p.args, hp := [], irng := p.irng, ri := ri, res := res p.ni, hp' := [], orng := orng p.ni, rel := ⟨(fun _ _ => True), (fun is _ xs _ => xs = F is)⟩ }
def u64Max : Int := 18446744073709551615
abbrev parI : Par := .one (.i .i64)
abbrev parU : Par := .one (.i .u64)
abbrev parB : Par := .one .b
abbrev parCall : Par := .agg [.i .u64, .i .u64, .i .u64, .i .u64, .i .u64]
abbrev parPte : Par := .agg [.i .i64, .i .i64, .i .i64]
def callOk (w : Int) : Bool := (decide (1 ≤ w) && decide (w ≤ 10)) || (decide (20 ≤ w) && decide (w ≤ 23))
def callN (w : Int) : Int := if callOk w then w else 0
def rightsB (w : Int) : Bool := decide (1 ≤ w) && decide (w ≤ 3)
def opB (w : Int) : Bool := decide (1 ≤ w) && decide (w ≤ 4)
def envB (w envs : Int) : Bool := decide (1 ≤ envs) && decide (w < envs)
/-- Are the words behind a call's number what they ought to be? -/
def argsB (k a b c d envs : Int) : Bool :=
  if k = 1 ∨ k = 4 ∨ k = 5 then decide (a < 8)
  else if k = 2 then decide (a < 8) && decide (b < 8) && rightsB c
  else if k = 3 then decide (a < 8) && envB b envs && decide (c < 8) && rightsB d
  else if k = 6 then decide (a < 8) && decide (b < 8) && rightsB c
  else if k = 7 then decide (a < 8)
  else if k = 8 then decide (a < 8) && rightsB b
  else if k = 9 then decide (a < 8) && decide (b < 16) && opB c
  else if 20 ≤ k then decide (a < 8) && decide (b < 16)
  else true
/-- What is wrong with a call's words: 0: nothing; 1: no such call; 2: an argument. -/
def checkN (k a b c d envs : Int) : Int := if callOk k then (if argsB k a b c d envs then 0 else 2) else 1
def nargs (k : Int) : Int :=
  if k = 1 ∨ k = 4 ∨ k = 5 ∨ k = 7 then 1 else if k = 2 ∨ k = 6 ∨ k = 21 ∨ k = 23 then 3 else if k = 3 ∨ k = 9 ∨ k = 22 then 4 else if k = 8 ∨ k = 20 then 2 else 0
def withinB (a b : Int) : Bool := rightsB a && rightsB b && (decide (a = b) || decide (b = 3))
def letsB (r k : Int) : Bool :=
  if k = 20 then decide (r = 1) || decide (r = 3) else if k = 21 then decide (r = 2) || decide (r = 3) else if k = 22 ∨ k = 23 then decide (r = 3) else false
/-- May an entry be written as a word? -/
def pteOk (f s r : Int) : Bool := (decide (f = 0) && decide (s = 0) && decide (r = 0)) || (decide (0 ≤ f) && decide (f < 16) && decide (0 ≤ s) && decide (s < 8) && rightsB r)
def pteN (f s r : Int) : Int := if pteOk f s r ∧ r ≠ 0 then 32768 + 256 * f + 16 * s + r else 0
/-- Is it the word of an entry that is there? -/
def wordOk (w : Int) : Bool := decide (32768 ≤ w) && (decide (w < 65536) && (decide (w % 32768 / 256 < 16) && (decide (w % 256 / 16 < 8) && rightsB (w % 16))))
def getOk (w : Int) : Bool := decide (w = 0) || (wordOk w && decide (w % 32768 / 256 < 16))
def getF (w : Int) : Int := if wordOk w then w % 32768 / 256 else 0
def getS (w : Int) : Int := if wordOk w then w % 256 / 16 else 0
def getR (w : Int) : Int := if wordOk w then w % 16 else 0
end Go.Sx
namespace Go.Sx
/-- More contracts ahead. -/
def withS (c : Cfg) (l : List FSpec) : Cfg := { c with specs := l.map FSpec.spec ++ c.specs }
def HoldAll (P : Program) (ro : List (Addr × Value)) : List FSpec → Prop
  | [] => True
  | s :: l => s.Holds P ro ∧ HoldAll P ro l
theorem holdAll_mem {P : Program} {ro : List (Addr × Value)} : ∀ {l : List FSpec}, HoldAll P ro l → ∀ s ∈ l, s.Holds P ro
  | [], _, s, h => by cases h
  | t :: l, h, s, hs => by
    rcases List.mem_cons.1 hs with rfl | hs
    · exact h.1
    · exact holdAll_mem h.2 s hs
theorem withS_ok {P : Program} {c : Cfg} {l : List FSpec} (hc : c.Ok P) (h : HoldAll P c.ro l) : (withS c l).Ok P := by
  refine ⟨?_, hc.meths⟩
  intro s hs
  rcases List.mem_append.1 hs with hs | hs
  · obtain ⟨t, ht, rfl⟩ := List.mem_map.1 hs
    exact FSpec.spec_ok (holdAll_mem h t ht)
  · exact hc.specs s hs
end Go.Sx
namespace Go.Sx
theorem letsB_out {r k : Int} (h : r < 1 ∨ 3 < r) : letsB r k = false := by
  have h1 : decide (r = 1) = false := decide_eq_false (by omega)
  have h2 : decide (r = 2) = false := decide_eq_false (by omega)
  have h3 : decide (r = 3) = false := decide_eq_false (by omega)
  simp [letsB, h1, h2, h3]
end Go.Sx
namespace Go.Sx
theorem fnSpec_post {f : FuncId} {ps : List Par} {ri : Nat} {res : Nat → SV} {orng : Nat → List (Nat × Int × Int)} {F : List Int → List Int} {is xs : List Int} {ls ys : List (List Int)} :
    (fnSpec f ps ri res orng F).rel.post is ls xs ys ↔ xs = F is := Iff.rfl
theorem fnSpec_pre {f : FuncId} {ps : List Par} {ri : Nat} {res : Nat → SV} {orng : Nat → List (Nat × Int × Int)} {F : List Int → List Int} {is : List Int} {ls : List (List Int)} :
    (fnSpec f ps ri res orng F).rel.pre is ls ↔ True := Iff.rfl
theorem pteOk_iff {f s r : Int} : pteOk f s r = true ↔ (f = 0 ∧ s = 0 ∧ r = 0) ∨ (0 ≤ f ∧ f < 16 ∧ 0 ≤ s ∧ s < 8 ∧ 1 ≤ r ∧ r ≤ 3) := by
  simp only [pteOk, rightsB, Bool.or_eq_true, Bool.and_eq_true, decide_eq_true_eq]
  constructor
  · rintro (h | h)
    · exact .inl (by omega)
    · exact .inr (by omega)
  · rintro (h | h)
    · exact .inl (by omega)
    · exact .inr (by omega)
theorem pteN_of {f s r : Int} (h : pteOk f s r = true) : pteN f s r = if r = 0 then 0 else 32768 + 256 * f + 16 * s + r := by
  simp only [pteN, h, true_and]
  by_cases hr : r = 0 <;> simp [hr]
theorem pteN_bad {f s r : Int} (h : pteOk f s r = false) : pteN f s r = 0 := by simp [pteN, h]
theorem pteN_inj {f s r g t q : Int} (h : pteOk f s r = true) (h' : pteOk g t q = true) : pteN f s r = pteN g t q ↔ f = g ∧ s = t ∧ r = q := by
  rw [pteN_of h, pteN_of h']
  rw [pteOk_iff] at h h'
  split <;> split <;> omega
theorem wordOk_iff {w : Int} : wordOk w = true ↔ 32768 ≤ w ∧ w < 65536 ∧ w % 32768 / 256 < 16 ∧ w % 256 / 16 < 8 ∧ 1 ≤ w % 16 ∧ w % 16 ≤ 3 := by
  simp only [wordOk, rightsB, Bool.and_eq_true, decide_eq_true_eq]
theorem wordOk_put {f s r : Int} (h : pteOk f s r = true) : wordOk (pteN f s r) = decide (r ≠ 0) := by
  rw [pteN_of h]
  rw [pteOk_iff] at h
  by_cases hr : r = 0
  · simp [hr, wordOk]
  · have : wordOk (32768 + 256 * f + 16 * s + r) = true := by rw [wordOk_iff]; omega
    simp [hr, this]
theorem get_put {f s r : Int} (h : pteOk f s r = true) : getF (pteN f s r) = f ∧ getS (pteN f s r) = s ∧ getR (pteN f s r) = r ∧ getOk (pteN f s r) = true := by
  have hw := wordOk_put h
  have hn := pteN_of h
  have hi := pteOk_iff.1 h
  by_cases hr : r = 0
  · have h0 : wordOk (pteN f s r) = false := by rw [hw]; simp [hr]
    have hz : pteN f s r = 0 := by rw [hn, if_pos hr]
    simp only [getF, getS, getR, getOk, hz]
    simp; omega
  · have h0 : wordOk (pteN f s r) = true := by rw [hw]; simp [hr]
    simp only [getF, getS, getR, getOk, h0, if_true, Bool.true_and]
    rw [if_neg hr] at hn
    rw [hn]
    refine ⟨by omega, by omega, by omega, ?_⟩
    simp; omega
theorem put_get {w : Int} (h : getOk w = true) : pteOk (getF w) (getS w) (getR w) = true ∧ pteN (getF w) (getS w) (getR w) = w := by
  cases hw : wordOk w with
  | false =>
    have h0 : w = 0 := by simpa [getOk, hw] using h
    subst h0
    decide
  | true =>
    have hp : pteOk (getF w) (getS w) (getR w) = true := by
      rw [pteOk_iff]; simp only [getF, getS, getR, hw, if_true]; rw [wordOk_iff] at hw; omega
    refine ⟨hp, ?_⟩
    rw [pteN_of hp]
    simp only [getF, getS, getR, hw, if_true]
    rw [wordOk_iff] at hw
    rw [if_neg (by omega)]; omega
theorem getOk_word {w : Int} : getOk w = (decide (w = 0) || wordOk w) := by
  cases hw : wordOk w with
  | false => simp [getOk, hw]
  | true => rw [wordOk_iff] at hw; simp [getOk, wordOk_iff]; omega
theorem bitDen_range (op : BinOp) (k : IntKind) (x y : Int) : k.min ≤ bitDen op k x y ∧ bitDen op k x y ≤ k.max := wrap_range k _
/-- A number with some bits turned is another one. -/
theorem xor_ne {x c : Int} (h0 : 0 ≤ x) (h1 : x ≤ 18446744073709551615) (hc : BitVec.ofInt 64 c ≠ 0#64) : bitDen .xor .u64 x c ≠ x := by
  intro h
  have e : bitDen .xor .u64 x c = ((BitVec.ofInt 64 x ^^^ BitVec.ofInt 64 c).toNat : Int) := by
    show IntKind.wrap .u64 ((BitVec.ofInt 64 x ^^^ BitVec.ofInt 64 c).toNat : Int) = _
    have := (BitVec.ofInt 64 x ^^^ BitVec.ofInt 64 c).isLt
    rw [wrapU]; omega
  rw [e] at h
  have hx : ((BitVec.ofInt 64 x).toNat : Int) = x := by rw [BitVec.toNat_ofInt]; omega
  have : (BitVec.ofInt 64 x ^^^ BitVec.ofInt 64 c).toNat = (BitVec.ofInt 64 x).toNat := by omega
  have := BitVec.eq_of_toNat_eq this
  apply hc
  have h2 : BitVec.ofInt 64 x ^^^ (BitVec.ofInt 64 x ^^^ BitVec.ofInt 64 c) = BitVec.ofInt 64 x ^^^ BitVec.ofInt 64 x := by rw [this]
  rw [← BitVec.xor_assoc, BitVec.xor_self, BitVec.zero_xor] at h2
  exact h2
theorem shl_ne {b : Int} (h0 : 0 ≤ b) (h1 : b < 64) : BitVec.ofInt 64 (IntKind.wrap .u64 (1 * 2 ^ (min b.toNat (IntKind.bits .u64)))) ≠ 0#64 := by
  have hb : min b.toNat (IntKind.bits .u64) = b.toNat := by simp only [IntKind.bits]; omega
  rw [hb]
  have : ∀ n : Nat, n < 64 → BitVec.ofInt 64 (IntKind.wrap .u64 (1 * 2 ^ n)) ≠ 0#64 := by decide +kernel
  exact this _ (by omega)
end Go.Sx
namespace Go.Sx
/-- Three comparisons, one after another. -/
theorem eq3 (a b c : Bool) : (if b2i a = 0 then (0 : Int) else (if b2i b = 0 then 0 else (if b2i c = 0 then 0 else 1))) = b2i (a && (b && c)) := by
  cases a <;> cases b <;> cases c <;> rfl
theorem b2i_zero (a : Bool) : b2i (b2i a == 0) = b2i (!a) := by cases a <;> rfl
end Go.Sx
