/- Code: regions, tests, loops unrolled, calls entered or by contract. -/
import Derived.Test.YthjfkblnbecjgaaGreatDoorSxOm
set_option linter.unusedVariables false
namespace Go.Sx

inductive Ex where
  | norm
  | exit (id : Nat)
  | ret
deriving DecidableEq, Repr
def Ex.to : Ex → Exit
  | .norm => .normal
  | .exit id => .exit id
  | .ret => .ret

/-- A call of function f by what is known of it. -/
structure Spec where
  f : FuncId
  run : List SV → M SV

/-- What a call comes to. -/
def Invokes (P : Program) (f : FuncId) (vs : Array Value) (w : World) (K : Value → World → Prop) : Prop :=
  match (callFunc f vs).run P w with
  | .ok (.value v) w' => K v w'
  | .ok (.enter g as) w' => Calls P g as w' fun e w'' => ∃ v, e = .returned v ∧ K v w''
  | .ok (.row r as) w' => Rows P r as w' K
  | _ => False

structure Cfg where
  ro : List (Addr × Value)
  meths : List (TypeId × String × FuncId × Bool)   -- 'true': of a struct's one field
  specs : List Spec

def Spec.Ok (P : Program) (ro : List (Addr × Value)) (s : Spec) : Prop :=
  ∀ (Φ : Phi) (C : Ctx) (ρ : Env) (h : H) (w : World) (args : List SV) (k : SV → H → Tree) (K : Value → World → Prop),
    RoOk C ro → SV.oks ρ.is.length ρ.bs.length args = true → RepH C ρ h w → (s.run args h k).den Φ ρ.is ρ.ls →
    (∀ sv ρ' h' v w', ρ.le ρ' → RepH C ρ' h' w' → SvIs ρ' sv v → (k sv h').den Φ ρ'.is ρ'.ls → K v w') →
    Invokes P s.f (SV.dens ρ args).toArray w K
structure Cfg.Ok (P : Program) (cfg : Cfg) : Prop where
  specs : ∀ s ∈ cfg.specs, s.Ok P cfg.ro
  meths : ∀ m ∈ cfg.meths, ∀ (v : Value) (w : World), (method (P.types.size + Made.depth) m.1 (if m.2.2.2 then .agg #[v] else v) m.2.1).run P w = .ok (m.2.2.1, v) w

def putS (sl : Slots) (d : Option Tmp) (x : SV) : Slots :=
  match d with
  | some d => sl.set d (some x)
  | none => sl
abbrev CodeF := FuncId → Code → Slots → H → (Ex → Slots → H → Tree) → Tree

/-- The results, where a function leaves them: in slots, or in variables. -/
def resultsM (P : Program) (ro : List (Addr × Value)) (sl : Slots) : List ResultVar → M (List SV)
  | [] => pure []
  | .tmp t :: r => (match (sl[t]?).join with
    | some x => do
      let xs ← resultsM P ro sl r
      pure (x :: xs)
    | none => M.no 151)
  | .cell a t :: r => (match (sl[a]?).join with
    | some (.ptr n o) => do
      let x ← ldVar P ro t (.ptr n o)
      let xs ← resultsM P ro sl r
      pure (x :: xs)
    | _ => M.no 158)
def packS : List SV → SV
  | [x] => x
  | xs => .tup xs
def plainName (fn : Func) : Bool := !(fn.name == "runtime.NumGoroutine")
def callG (P : Program) (cfg : Cfg) (ex : CodeF) (g : FuncId) (args : List SV) : M SV := fun h k =>
  match cfg.specs.find? (·.f == g) with
  | some s => s.run args h k
  | none =>
    match P.funcs[g]? with
    | some fn => (match fn.body with
      | some c => if plainName fn then
          ex g c (args.map some ++ List.replicate (fn.ntmps - args.length) none) h fun e sl h =>
            match e with
            | .exit _ => .fail 150
            | _ => resultsM P cfg.ro sl fn.results.toList h fun xs h => k (packS xs) h
        else .fail 152
      | none => .fail 153)
    | none => .fail 154
def recvS (b : Bool) (x : SV) : Option SV :=
  match b, x with
  | false, x => some x
  | true, .agg [y] => some y
  | _, _ => none
/-- Which Go function a call enters, and with what. -/
def targetS (cfg : Cfg) (ev : Operand → Option SV) (c : Call) : Option (FuncId × List SV) :=
  match c.callee with
  | .value f => (match ev f, allSome (c.args.toList.map ev) with
    | some (.fn (.func g) cs), some xs => some (g, xs ++ cs)
    | _, _ => none)
  | .invoke r name => (match ev r, allSome (c.args.toList.map ev) with
    | some (.iface t x), some xs => (match cfg.meths.find? (fun m => m.1 == t && m.2.1 == name) with
      | some m => (match recvS m.2.2.2 x with
        | some y => some (m.2.2.1, y :: xs)
        | none => none)
      | none => none)
    | _, _ => none)
  | .builtin _ => none
def goCall (o : Oper) : Option Call :=
  match o.op with
  | .call c => (match c.callee with
    | .builtin _ => none
    | _ => some c)
  | _ => none
def stepO0 (P : Program) (cfg : Cfg) (ex : CodeF) (o : Oper) (sl : Slots) : M SV :=
  match goCall o with
  | some c => (match targetS cfg (evalO sl) c with
      | some (g, xs) => callG P cfg ex g xs
      | none => M.no 155)
  | none => opW P cfg.ro (evalO sl) o
/-- A block that is read or written at a place that is not known: a list tells it. -/
def prepP (x : Option SV) : M Unit := fun h k =>
  match x with
  | some (.ptr n o) => (match h.fixed o with
    | some _ => k () h
    | none => toArr n h k)
  | _ => k () h
def prepO (sl : Slots) (o : Oper) : M Unit := fun h k =>
  match o.op with
  | .load _ x => prepP (evalO sl x) h k
  | .store _ x _ => prepP (evalO sl x) h k
  | _ => k () h
def stepO (P : Program) (cfg : Cfg) (ex : CodeF) (o : Oper) (sl : Slots) : M SV := fun h k => prepO sl o h fun _ h1 => stepO0 P cfg ex o sl h1 k
def guardM (ops : Array Oper) (sl : Slots) (o : Oper) : M Bool :=
  match o.guard with
  | none => pure true
  | some (j, want) =>
    match (ops[j]?).bind (·.dst) with
    | none => M.no 156
    | some d => (match (sl[d]?).join with
      | some (.b a) => do
        let b ← dec a
        pure (b == want)
      | some (.tup []) => pure false
      | _ => M.no 157)
def execOps (P : Program) (cfg : Cfg) (ex : CodeF) (ops : Array Oper) : List Nat → Slots → H → (Slots → H → Tree) → Tree
  | [], sl, h, k => k sl h
  | i :: rest, sl, h, k =>
    match ops[i]? with
    | none => execOps P cfg ex ops rest sl h k
    | some o => guardM ops sl o h fun b h =>
      if b then stepO P cfg ex o sl h fun sv h => execOps P cfg ex ops rest (putS sl o.dst sv) h k
      else execOps P cfg ex ops rest (putS sl o.dst (.tup [])) h k

section
variable {Φ : Phi} {C : Ctx} {ρ : Env} {h : H} {w : World} {P : Program} {cfg : Cfg}

/-- What is promised of running code. -/
def CodeOk (P : Program) (C : Ctx) (ex : CodeF) : Prop :=
  ∀ (Φ : Phi) (fid : FuncId) (c : Code) (sl : Slots) (h : H) (k : Ex → Slots → H → Tree) (Q : Exit → Act → World → Prop) (ρ : Env) (a : Act) (w : World),
    RepS ρ sl a → RepH C ρ h w → (ex fid c sl h k).den Φ ρ.is ρ.ls →
    (∀ e sl' h' ρ' a' w', ρ.le ρ' → RepS ρ' sl' a' → RepH C ρ' h' w' → (k e sl' h').den Φ ρ'.is ρ'.ls → Q e.to a' w') → c.wp P Q a w

theorem putS_rep {sl : Slots} {a : Act} (r : RepS ρ sl a) {d : Option Tmp} {x : SV} {v : Value} (hx : SvIs ρ x v) : RepS ρ (putS sl d x) (a.put d v) := by
  cases d with
  | none => exact r
  | some d =>
    refine ⟨by simp [putS, Act.put, r.size], r.defers, fun i y hy => ?_⟩
    simp only [putS, List.getElem?_set] at hy
    by_cases e : d = i
    · subst e
      simp only [if_true] at hy
      split at hy
      · rename_i hl
        simp only [Option.some.injEq] at hy
        subst hy
        exact ⟨v, by simp [Act.put, r.size, hl], hx⟩
      · cases hy
    · simp only [e, if_false] at hy
      obtain ⟨u, hu, hi⟩ := r.slots i y hy
      exact ⟨u, by simp only [Act.put, Array.getElem?_setIfInBounds_ne e]; exact hu, hi⟩

theorem oks_map {ρ : Env} : ∀ xs : List SV, SV.oks ρ.is.length ρ.bs.length xs = true → ∀ (i : Nat) (x : SV), xs[i]? = some x → SvIs ρ x (SV.den ρ x) ∧ (SV.dens ρ xs)[i]? = some (SV.den ρ x) :=
  fun xs h i x e => oks_get h e

theorem enter_rep {args : List SV} (hok : SV.oks ρ.is.length ρ.bs.length args = true) (n : Nat) :
    RepS ρ (args.map some ++ List.replicate (n - args.length) none) { tmps := (SV.dens ρ args).toArray ++ Array.replicate (n - (SV.dens ρ args).toArray.size) undef, defers := [] } := by
  have hl : (SV.dens ρ args).length = args.length := by rw [SV.dens_eq]; simp
  refine ⟨by simp [hl], rfl, fun i x hx => ?_⟩
  by_cases hi : i < args.length
  · rw [List.getElem?_append_left (by simpa using hi)] at hx
    simp only [List.getElem?_map] at hx
    cases e : args[i]? with
    | none => rw [e] at hx; cases hx
    | some y =>
      rw [e] at hx
      simp only [Option.map_some, Option.some.injEq] at hx
      subst hx
      have := oks_get hok e
      refine ⟨_, ?_, this.1⟩
      rw [Array.getElem?_append_left (by simpa [hl] using hi)]
      simpa using this.2
  · rw [List.getElem?_append_right (by simpa using hi)] at hx
    simp [List.getElem?_replicate] at hx

def resVal (tmps : Array Value) : ResultVar → Sem Value
  | .tmp t => pure (tmps.getD t undef)
  | .cell a t => do loadVar t (← asAddr (tmps.getD a undef))
theorem results_eq (fn : Func) (tmps : Array Value) : results fn tmps = (do
    let vs ← fn.results.mapM (resVal tmps)
    pure (if h : vs.size = 1 then vs[0] else .tuple vs)) := rfl
theorem slot_of {ρ : Env} {sl : Slots} {a : Act} (r : RepS ρ sl a) {t : Nat} {x : SV} (ht : (sl[t]?).join = some x) : SvIs ρ x (a.tmps.getD t undef) := by
  have hs : sl[t]? = some (some x) := by
    cases q : sl[t]? with
    | none => rw [q] at ht; cases ht
    | some o => rw [q] at ht; simp only [Option.join_some] at ht; rw [ht]
  obtain ⟨v, hv, hi⟩ := r.slots t x hs
  have hg : a.tmps.getD t undef = v := by simp [hv]
  rw [hg]; exact hi
theorem resultsM_spec {ro : List (Addr × Value)} (hro : RoOk C ro) {sl : Slots} {a : Act} (l : List ResultVar) {ρ : Env} {h : H} (r : RepS ρ sl a) :
    MSpec Φ C (resultsM P ro sl l) ρ h w fun xs ρ' h' w' => w' = w ∧ h'.hp = h.hp ∧ SV.oks ρ'.is.length ρ'.bs.length xs = true ∧ (l.mapM (resVal a.tmps)).run P w = .ok (SV.dens ρ' xs) w := by
  induction l generalizing ρ h with
  | nil => exact MSpec.ret ⟨rfl, rfl, rfl, rfl⟩
  | cons q l ih =>
    cases q with
    | tmp t =>
      unfold resultsM
      split
      · rename_i x ht
        have hx := slot_of r ht
        refine (ih r).bind ?_
        rintro xs ρ1 h1 w1 l1 ⟨rfl, hp1, hok, hr⟩
        have hx1 := hx.mono l1
        refine MSpec.ret ⟨rfl, hp1, by simp only [SV.oks, Bool.and_eq_true]; exact ⟨hx1.1, hok⟩, ?_⟩
        rw [List.mapM_cons]
        simp only [Sem.run_bind, Sem.run_pure, Result.andThen_ok, hr, SV.dens, hx1.2, resVal]
      · exact MSpec.no
    | cell ad t =>
      unfold resultsM
      split
      · rename_i n o ht
        have hx := slot_of r ht
        refine (ldVar_spec (P := P) hro (t := t) hx).bind ?_
        rintro x ρ1 h1 w1 l1 ⟨rfl, hp1, v, hv, hr1⟩
        refine (ih (r.mono l1)).bind ?_
        rintro xs ρ2 h2 w2 l2 ⟨rfl, hp2, hok, hr⟩
        have hv2 := hv.mono l2
        have hp := hx.ptr.2.2
        refine MSpec.ret ⟨rfl, by rw [hp2, hp1], by simp only [SV.oks, Bool.and_eq_true]; exact ⟨hv2.1, hok⟩, ?_⟩
        rw [hp] at hr1
        simp only [Instr.loadAt, Instr.sureAddr, Sem.run_bind, Sem.run_pure, Result.andThen_ok] at hr1
        rw [List.mapM_cons]
        simp only [Sem.run_bind, Sem.run_pure, resVal, hp, asAddr, Result.andThen_ok, hr1, hr, SV.dens, hv2.2]
      · exact MSpec.no

theorem results_run {a : Act} {fn : Func} {xs : List SV} (h1 : SV.oks ρ.is.length ρ.bs.length xs = true) (h2 : (fn.results.toList.mapM (resVal a.tmps)).run P w = .ok (SV.dens ρ xs) w) :
    ∃ v, (results fn a.tmps).run P w = .ok v w ∧ SvIs ρ (packS xs) v := by
  have hrun : (results fn a.tmps).run P w = .ok (if h : (SV.dens ρ xs).toArray.size = 1 then (SV.dens ρ xs).toArray[0] else .tuple (SV.dens ρ xs).toArray) w := by
    rw [results_eq, Array.mapM_eq_mapM_toList]
    simp only [Sem.run_bind, Sem.run_map, h2, Result.andThen_ok, Sem.run_pure]
  refine ⟨_, hrun, ?_⟩
  match xs, h1 with
  | [x], h1 =>
    simp only [SV.dens, List.size_toArray, List.length_cons, List.length_nil]
    simp only [SV.oks, Bool.and_true] at h1
    exact ⟨h1, rfl⟩
  | [], h1 => exact ⟨rfl, by simp [SV.den, SV.dens, packS]⟩
  | x :: y :: zs, h1 =>
    have hne : ¬ (SV.dens ρ (x :: y :: zs)).toArray.size = 1 := by simp [SV.dens]
    rw [dif_neg hne]
    refine ⟨?_, ?_⟩
    · show SV.ok ρ.is.length ρ.bs.length (.tup (x :: y :: zs)) = true
      rw [SV.ok]; exact h1
    · show SV.den ρ (.tup (x :: y :: zs)) = _
      rw [SV.den]

theorem callFunc_enter {P : Program} {f : FuncId} {fn : Func} {c : Code} (hf : P.funcs[f]? = some fn) (hb : fn.body = some c) (hn : plainName fn = true) (vs : Array Value) (w : World) :
    (callFunc f vs).run P w = .ok (.enter f vs) w := by
  have hn' : ¬ (fn.name == "runtime.NumGoroutine") = true := by simpa [plainName] using hn
  simp only [callFunc, Sem.run_bind, run_program, Result.andThen_ok, hf]
  rw [if_neg hn']
  simp [hb]

theorem callG_sound {ex : CodeF} (hex : CodeOk P C ex) (hcfg : cfg.Ok P) (hro : RoOk C cfg.ro) {g : FuncId} {args : List SV} (hok : SV.oks ρ.is.length ρ.bs.length args = true) (r : RepH C ρ h w)
    {k : SV → H → Tree} (hd : (callG P cfg ex g args h k).den Φ ρ.is ρ.ls) {K : Value → World → Prop}
    (hk : ∀ sv ρ' h' v w', ρ.le ρ' → RepH C ρ' h' w' → SvIs ρ' sv v → (k sv h').den Φ ρ'.is ρ'.ls → K v w') :
    Invokes P g (SV.dens ρ args).toArray w K := by
  unfold callG at hd
  split at hd
  · rename_i s es
    have hm := List.mem_of_find?_eq_some es
    have hg : s.f = g := by simpa using List.find?_some es
    rw [← hg]
    exact hcfg.specs s hm Φ C ρ h w args k K hro hok r hd hk
  · split at hd
    · rename_i fn ef
      split at hd
      · rename_i c ec
        split at hd
        · rename_i hn
          unfold Invokes
          rw [callFunc_enter ef ec hn]
          simp only
          refine calls_of_wp ef ec ?_
          refine hex Φ g c _ h _ _ ρ _ w (enter_rep hok fn.ntmps) r hd ?_
          intro e sl' h' ρ' a' w' l rs rh hd'
          have fin : (resultsM P cfg.ro sl' fn.results.toList h' fun xs h => k (packS xs) h).den Φ ρ'.is ρ'.ls → a'.defers = [] ∧ ∃ v, (results fn a'.tmps).run P w' = .ok v w' ∧ (∃ v', Ending.returned v = .returned v' ∧ K v' w') := by
            intro hd'
            refine ⟨rs.defers, ?_⟩
            obtain ⟨xs, ρ2, h2, w2, l2, r2, d2, e2, _, hok2, hrun2⟩ := resultsM_spec (P := P) hro fn.results.toList rs rh _ hd'
            subst e2
            obtain ⟨v, hv, hs⟩ := results_run hok2 hrun2
            exact ⟨v, hv, v, rfl, hk _ _ _ _ _ (Env.le_trans l l2) r2 hs d2⟩
          cases e with
          | norm => exact fin hd'
          | ret => exact fin hd'
          | exit id => exact hd'.elim
        · exact hd.elim
      · exact hd.elim
    · exact hd.elim

/-- One operation. -/
theorem upon_of {o : Oper} {a : Act} {next : Act → World → Prop} {Q : Exit → Act → World → Prop} {ev : Operand → Value} (hev : ev = a.eval) {sv : SV} {ρ1 : Env} {h1 : H} {w1 : World}
    (hd : OpDoes P ev o w sv ρ1 h1 w1) (hn : ∀ v, SvIs ρ1 sv v → next (a.put o.dst v) w1) : o.wp P a w next Q := by
  subst hev
  obtain ⟨v, hv, hr | ⟨hr, rfl⟩⟩ := hd
  · unfold Oper.wp
    rw [hr]
    exact hn v hv
  · unfold Oper.wp
    rw [hr]
    exact hn _ hv

theorem invokes_upon {o : Oper} {a : Act} {next : Act → World → Prop} {Q : Exit → Act → World → Prop} {f : FuncId} {vs : Array Value} (he : (execOp a.eval o).run P w = (callFunc f vs).run P w)
    (hi : Invokes P f vs w fun v w' => next (a.put o.dst v) w') : o.wp P a w next Q := by
  unfold Oper.wp
  rw [he]
  unfold Invokes at hi
  split at hi
  · rename_i e; rw [e]; exact hi
  · rename_i e
    rw [e]
    exact hi.mono fun e w'' ⟨v, hv, hk⟩ => by subst hv; exact hk
  · rename_i e; rw [e]; exact hi
  · exact hi.elim

theorem target_run {sl : Slots} {a : Act} (r : RepS ρ sl a) (hcfg : cfg.Ok P) {c : Call} {g : FuncId} {xs : List SV} (e : targetS cfg (evalO sl) c = some (g, xs)) (o : Oper) (ho : o.op = .call c) :
    SV.oks ρ.is.length ρ.bs.length xs = true ∧ (execOp a.eval o).run P w = (callFunc g (SV.dens ρ xs).toArray).run P w := by
  unfold targetS at e
  split at e
  · rename_i f hc
    split at e
    · rename_i g' cs ys e1 e2
      simp only [Option.some.injEq, Prod.mk.injEq] at e
      obtain ⟨rfl, rfl⟩ := e
      have hf := evalO_is r e1
      have hys := allSome_is r _ _ e2
      have hcs : SV.oks ρ.is.length ρ.bs.length cs = true := by have := hf.1; rwa [SV.ok] at this
      have hfe : a.eval f = .func (.func g') #[] (SV.dens ρ cs).toArray := by rw [← hf.2, SV.den]
      refine ⟨oks_append hys.1 hcs, ?_⟩
      have hargs : c.args.map a.eval = (SV.dens ρ ys).toArray := by rw [hys.2, ← Array.toList_map]
      simp only [execOp, ho, resolve, hc, hfe, hargs, Deferred.ofValue, Sem.run_bind, Sem.run_pure, Result.andThen_ok, invoke, dens_append]
      congr 2
      simp
    · cases e
  · rename_i rc name hc
    split at e
    · rename_i t x ys e1 e2
      split at e
      · rename_i m em
        split at e
        · rename_i y ey
          simp only [Option.some.injEq, Prod.mk.injEq] at e
          obtain ⟨rfl, rfl⟩ := e
          have hm := List.mem_of_find?_eq_some em
          have hmm := List.find?_some em
          simp only [Bool.and_eq_true, beq_iff_eq] at hmm
          have hf := evalO_is r e1
          have hys := allSome_is r _ _ e2
          obtain ⟨hx, hfe⟩ := hf.iface
          have hargs : c.args.map a.eval = (SV.dens ρ ys).toArray := by rw [hys.2, ← Array.toList_map]
          have hrec : SV.ok ρ.is.length ρ.bs.length y = true ∧ SV.den ρ x = (if m.2.2.2 then .agg #[SV.den ρ y] else SV.den ρ y) := by
            unfold recvS at ey
            split at ey
            · rename_i hb; cases ey; rw [hb]; exact ⟨hx.1, rfl⟩
            · rename_i z hb
              cases ey
              rw [hb]
              have := hx.1
              simp only [SV.ok, SV.oks, Bool.and_true] at this
              exact ⟨this, by simp [SV.den, SV.dens]⟩
            · cases ey
          refine ⟨by simp only [SV.oks, Bool.and_eq_true]; exact ⟨hrec.1, hys.1⟩, ?_⟩
          have hmeth := hcfg.meths m hm (SV.den ρ y) w
          rw [hmm.1, hmm.2, ← hrec.2] at hmeth
          simp only [execOp, ho, resolve, hc, hfe, hargs, Sem.run_bind, Sem.run_pure, Result.andThen_ok, invoke]
          simp [callMethod, hmeth, SV.dens]
        · cases e
      · cases e
    · cases e
  · cases e

theorem prepP_spec {x : Option SV} : MSpec Φ C (prepP x) ρ h w fun _ ρ' h' w' => w' = w ∧ ∀ m W, KW C ρ' h' m W ↔ KW C ρ h m W := by
  have same : MSpec Φ C (fun h k => k () h : M Unit) ρ h w fun _ ρ' h' w' => w' = w ∧ ∀ m W, KW C ρ' h' m W ↔ KW C ρ h m W :=
    fun r k hk => ⟨(), ρ, h, w, Env.le_refl ρ, r, hk, rfl, fun _ _ => Iff.rfl⟩
  intro r k hk
  unfold prepP at hk
  split at hk
  · split at hk
    · exact same r k hk
    · exact toArr_spec r k hk
  · exact same r k hk
theorem prepO_spec {sl : Slots} {o : Oper} : MSpec Φ C (prepO sl o) ρ h w fun _ ρ' h' w' => w' = w ∧ ∀ m W, KW C ρ' h' m W ↔ KW C ρ h m W := by
  intro r k hk
  unfold prepO at hk
  split at hk
  · exact prepP_spec r k hk
  · exact prepP_spec r k hk
  · exact ⟨(), ρ, h, w, Env.le_refl ρ, r, hk, rfl, fun _ _ => Iff.rfl⟩
theorem stepO0_sound {ex : CodeF} (hex : CodeOk P C ex) (hcfg : cfg.Ok P) (hro : RoOk C cfg.ro) {sl : Slots} {a : Act} (rs : RepS ρ sl a) (r : RepH C ρ h w) {o : Oper} {k : SV → H → Tree}
    (hd : (stepO0 P cfg ex o sl h k).den Φ ρ.is ρ.ls) {next : Act → World → Prop} {Q : Exit → Act → World → Prop}
    (hk : ∀ sv ρ' h' v w', ρ.le ρ' → RepH C ρ' h' w' → SvIs ρ' sv v → (k sv h').den Φ ρ'.is ρ'.ls → next (a.put o.dst v) w') : o.wp P a w next Q := by
  have plain : (opW P cfg.ro (evalO sl) o h k).den Φ ρ.is ρ.ls → o.wp P a w next Q := by
    intro hd
    obtain ⟨sv, ρ1, h1, w1, l1, r1, d1, p1⟩ := opW_spec hro rs o r k hd
    exact upon_of rfl p1 fun v hv => hk sv ρ1 h1 v w1 l1 r1 hv d1
  unfold stepO0 at hd
  cases hc : goCall o with
  | none =>
    rw [hc] at hd
    exact plain hd
  | some c =>
    rw [hc] at hd
    have ho : o.op = .call c := by
      unfold goCall at hc
      split at hc
      · rename_i c' e
        split at hc
        · cases hc
        · cases hc; exact e
      · cases hc
    simp only at hd
    cases et : targetS cfg (evalO sl) c with
    | none => rw [et] at hd; exact hd.elim
    | some p =>
      obtain ⟨g, xs⟩ := p
      rw [et] at hd
      obtain ⟨hok, hrun⟩ := target_run (w := w) rs hcfg et o ho
      exact invokes_upon hrun (callG_sound hex hcfg hro hok r hd hk)

theorem stepO_sound {ex : CodeF} (hex : CodeOk P C ex) (hcfg : cfg.Ok P) (hro : RoOk C cfg.ro) {sl : Slots} {a : Act} (rs : RepS ρ sl a) (r : RepH C ρ h w) {o : Oper} {k : SV → H → Tree}
    (hd : (stepO P cfg ex o sl h k).den Φ ρ.is ρ.ls) {next : Act → World → Prop} {Q : Exit → Act → World → Prop}
    (hk : ∀ sv ρ' h' v w', ρ.le ρ' → RepH C ρ' h' w' → SvIs ρ' sv v → (k sv h').den Φ ρ'.is ρ'.ls → next (a.put o.dst v) w') : o.wp P a w next Q := by
  obtain ⟨_, ρ1, h1, w1, l1, r1, d1, rfl, _⟩ := prepO_spec r (fun _ h1 => stepO0 P cfg ex o sl h1 k) hd
  exact stepO0_sound hex hcfg hro (rs.mono l1) r1 d1 fun sv ρ' h' v w' l' => hk sv ρ' h' v w' (Env.le_trans l1 l')

theorem guardM_spec {ops : Array Oper} {sl : Slots} {a : Act} (rs : RepS ρ sl a) (o : Oper) : MSpec Φ C (guardM ops sl o) ρ h w fun b ρ' h' w' => w' = w ∧ h'.hp = h.hp ∧ Region.wanted o (yielded ops a.tmps) = b := by
  unfold guardM
  split
  · rename_i hg
    exact MSpec.ret ⟨rfl, rfl, by simp [Region.wanted, hg]⟩
  · rename_i j want hg
    split
    · exact MSpec.no
    · rename_i d hd
      split
      · rename_i x hx
        have hs : sl[d]? = some (some (.b x)) := by
          cases q : sl[d]? with
          | none => rw [q] at hx; cases hx
          | some o => rw [q] at hx; simp only [Option.join_some] at hx; rw [hx]
        obtain ⟨v, hv, hi⟩ := rs.slots d _ hs
        obtain ⟨hxa, rfl⟩ := hi.bool
        refine (dec_spec hxa).bind ?_
        rintro b ρ1 h1 w1 l1 ⟨rfl, hp1, hb⟩
        refine MSpec.ret ⟨rfl, hp1, ?_⟩
        rw [hb] at hv
        simp [Region.wanted, hg, yielded, hd, hv]
      · rename_i hx
        have hs : sl[d]? = some (some (.tup [])) := by
          cases q : sl[d]? with
          | none => rw [q] at hx; cases hx
          | some o => rw [q] at hx; simp only [Option.join_some] at hx; rw [hx]
        obtain ⟨v, hv, hi⟩ := rs.slots d _ hs
        have hv' : v = .tuple #[] := by rw [← hi.2]; rfl
        subst hv'
        refine MSpec.ret ⟨rfl, rfl, ?_⟩
        simp [Region.wanted, hg, yielded, hd, hv]
      · exact MSpec.no

theorem execOps_sound {ex : CodeF} (hex : CodeOk P C ex) (hcfg : cfg.Ok P) (hro : RoOk C cfg.ro) {ops : Array Oper} {Q : Exit → Act → World → Prop} : ∀ (l : List Nat) {ρ : Env} {sl : Slots} {h : H} {a : Act} {w : World} {k : Slots → H → Tree},
    RepS ρ sl a → RepH C ρ h w → (execOps P cfg ex ops l sl h k).den Φ ρ.is ρ.ls →
    (∀ sl' h' ρ' a' w', ρ.le ρ' → RepS ρ' sl' a' → RepH C ρ' h' w' → (k sl' h').den Φ ρ'.is ρ'.ls → Q .normal a' w') → wpOps P ops Q l a w
  | [], ρ, sl, h, a, w, k, rs, r, hd, hk => hk _ _ _ _ _ (Env.le_refl ρ) rs r hd
  | i :: rest, ρ, sl, h, a, w, k, rs, r, hd, hk => by
    unfold execOps at hd
    simp only [wpOps]
    split at hd
    · rename_i ho
      rw [ho]
      exact execOps_sound hex hcfg hro rest rs r hd hk
    · rename_i o ho
      rw [ho]
      obtain ⟨b, ρ1, h1, w1, l1, r1, d1, e1, _, hb⟩ := guardM_spec (Φ := Φ) (C := C) (ops := ops) rs o r _ hd
      subst e1
      simp only [hb]
      cases b with
      | true =>
        simp only [if_true] at d1 ⊢
        left
        refine stepO_sound hex hcfg hro (rs.mono l1) r1 d1 ?_
        intro sv ρ2 h2 v w2 l2 r2 hv d2
        refine execOps_sound hex hcfg hro rest (putS_rep ((rs.mono l1).mono l2) hv) r2 d2 ?_
        intro sl' h' ρ' a' w' l' rs' r' d'
        exact hk _ _ _ _ _ (Env.le_trans l1 (Env.le_trans l2 l')) rs' r' d'
      | false =>
        simp only [Bool.false_eq_true, if_false] at d1 ⊢
        refine execOps_sound hex hcfg hro rest (putS_rep (rs.mono l1) (v := undef) ⟨rfl, rfl⟩) r1 d1 ?_
        intro sl' h' ρ' a' w' l' rs' r' d'
        exact hk _ _ _ _ _ (Env.le_trans l1 l') rs' r' d'
end
end Go.Sx
