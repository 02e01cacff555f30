/- Operations of the machine that are no calls: what each gives. -/
import Derived.Test.YthjfkblnbecjgaaGreatDoorSxF
import Derived.Laws.StructEq
import Derived.Laws.Cells
set_option linter.unusedVariables false
namespace Go.Sx

/-- A run that ends well. -/
def Does (P : Program) (s : Sem Value) (w : World) : SV → Env → H → World → Prop := fun sv ρ' _ w' => ∃ v, SvIs ρ' sv v ∧ s.run P w = .ok v w'
/-- A run that ends well in every world, and leaves it alone. -/
def DoesA (P : Program) (s : Sem Value) : SV → Env → Prop := fun sv ρ' => ∃ v, SvIs ρ' sv v ∧ ∀ W : World, s.run P W = .ok v W
def DoesU (P : Program) (s : Sem Unit) (w : World) : Unit → Env → H → World → Prop := fun _ _ _ w' => s.run P w = .ok () w'

/-! ### Constants -/
def ofCell : Value → SV
  | .int k n => .i k (.c n)
  | .bool b => .b (.c (b2i b))
  | .pointer none => .nilp
  | .slice none 0 0 => .nils
  | v => .raw v
def ofConst : Value → SV
  | .agg cs => .agg (cs.toList.map ofCell)
  | v => ofCell v
theorem ofCell_is (ρ : Env) (v : Value) : SvIs ρ (ofCell v) v := by
  unfold ofCell
  split <;> simp [SvIs, SV.ok, SV.den, At.lt]
  rename_i b; cases b <;> simp [b2i]
theorem ofCells_is (ρ : Env) : ∀ l : List Value, SV.oks ρ.is.length ρ.bs.length (l.map ofCell) = true ∧ SV.dens ρ (l.map ofCell) = l
  | [] => ⟨rfl, rfl⟩
  | v :: l => by
    have h1 := ofCell_is ρ v
    have h2 := ofCells_is ρ l
    simp only [List.map_cons, SV.oks, SV.dens, Bool.and_eq_true]
    exact ⟨⟨h1.1, h2.1⟩, by rw [h1.2, h2.2]⟩
theorem ofConst_is (ρ : Env) (v : Value) : SvIs ρ (ofConst v) v := by
  unfold ofConst
  split
  · rename_i cs
    have := ofCells_is ρ cs.toList
    exact ⟨by rw [SV.ok]; exact this.1, by rw [SV.den, this.2]⟩
  · exact ofCell_is ρ v

def evalO (sl : Slots) : Operand → Option SV
  | .tmp t => (sl[t]?).join
  | .const v => some (ofConst v)
  | .global g => some (.raw (.pointer (some ⟨g, 0, none⟩)))
  | .func f => some (.fn (.func f) [])
theorem evalO_is {ρ : Env} {sl : Slots} {a : Act} (r : RepS ρ sl a) {x : Operand} {sv : SV} (e : evalO sl x = some sv) : SvIs ρ sv (a.eval x) := by
  cases x with
  | tmp t =>
    simp only [evalO] at e
    cases hs : sl[t]? with
    | none => rw [hs] at e; cases e
    | some o =>
      rw [hs] at e
      simp only [Option.join_some] at e
      subst e
      obtain ⟨v, hv, hi⟩ := r.slots t sv hs
      have : a.eval (.tmp t) = v := by simp [Act.eval, hv]
      rw [this]; exact hi
  | const v => cases e; exact ofConst_is ρ v
  | global g => cases e; exact ⟨rfl, rfl⟩
  | func f => cases e; exact ⟨rfl, by simp [SV.den, SV.dens, Act.eval]⟩

section
variable {Φ : Phi} {C : Ctx} {ρ : Env} {h : H} {w : World} {P : Program}

/-! ### Types -/
def isAggT (P : Program) (t : TypeId) : Option Bool :=
  match P.underlying t with
  | some (.struct _) | some (.array _ _) => some true
  | some _ => some false
  | none => none
def sizeT (P : Program) (t : TypeId) : Option Nat := (P.info? t).map (·.size)
theorem run_isAgg {t : TypeId} {b : Bool} (e : isAggT P t = some b) (w : World) : (isAgg t).run P w = .ok b w := by
  unfold isAggT at e
  unfold isAgg
  cases hu : P.underlying t with
  | none => rw [hu] at e; cases e
  | some d =>
    rw [hu] at e
    simp only [Sem.run_bind, run_underlying hu, Result.andThen_ok]
    cases d <;> simp_all
theorem run_sizeOf' {t : TypeId} {n : Nat} (e : sizeT P t = some n) (w : World) : (sizeOf t).run P w = .ok n w := by
  unfold sizeT at e
  cases hi : P.info? t with
  | none => rw [hi] at e; cases e
  | some i =>
    rw [hi] at e
    simp only [Option.map_some, Option.some.injEq] at e
    simp [sizeOf, typeInfo, hi, e]
def zeroT (P : Program) (t : TypeId) : Option Value := (P.info? t).bind (·.zero)
theorem run_zeroValue' {t : TypeId} {z : Value} (e : zeroT P t = some z) (w : World) : (zeroValue t).run P w = .ok z w := by
  unfold zeroT at e
  cases hi : P.info? t with
  | none => rw [hi] at e; cases e
  | some i =>
    rw [hi] at e
    simp only [Option.bind_some] at e
    simp [zeroValue, typeInfo, hi, e]

/-! ### Loads -/
def rdCells (n : Nat) (o : At) : Nat → Nat → M (List SV)
  | _, 0 => pure []
  | i, c + 1 => do
    let oi ← mkI (.add o (.c i))
    let x ← rdCell n oi
    let xs ← rdCells n o (i + 1) c
    pure (x :: xs)
theorem at_add {n : Nat} {o oi : At} {i : Nat} {z : Int} (ho : AtIs ρ o z) (hi : AtIs ρ oi (z + i)) (hz : 0 ≤ z) : ρ.at n oi = (ρ.at n o).add i := by
  unfold Env.at Addr.add
  rw [ho.val, hi.val]
  split
  · rename_i h; subst h; simp
  · simp only [Addr.mk.injEq, true_and, and_true]; omega
theorem at_mono {ρ ρ' : Env} (l : ρ.le ρ') {n : Nat} {o : At} {z : Int} (hn : n < ρ.bs.length) (ho : AtIs ρ o z) : ρ'.at n o = ρ.at n o := by
  obtain ⟨τ, rfl⟩ := l; exact Env.at_app hn ho.1

theorem rdCells_spec2 {n : Nat} (hn : n < ρ.bs.length) {o : At} {z : Int} (ho : AtIs ρ o z) (hz : 0 ≤ z) (i c : Nat) :
    MSpec Φ C (rdCells n o i c) ρ h w fun xs ρ' h' w' => w' = w ∧ h'.hp = h.hp ∧ SV.oks ρ'.is.length ρ'.bs.length xs = true ∧ xs.length = c ∧
      ∀ j v, (SV.dens ρ' xs)[j]? = some v → ∀ W, KW C ρ h n W → W.cell? ((ρ.at n o).add (i + j)) = some v := by
  induction c generalizing ρ h w i with
  | zero => exact MSpec.ret ⟨rfl, rfl, rfl, rfl, fun j v e => by simp [SV.dens] at e⟩
  | succ c ih =>
    refine MSpec.rep fun r0 => ?_
    unfold rdCells
    refine (mkI_ok (by simp [IOp.okB, IOp.atoms, At.lt]; exact ho.1)).bind ?_
    rintro oi ρ1 h1 w1 l1 ⟨rfl, hp1, hoi⟩
    simp only [IOp.den, ho.val, At.den_c] at hoi
    refine (rdCell_spec2 hoi).bind ?_
    rintro x ρ2 h2 w2 l2 ⟨rfl, hp2, v, hx, hc⟩
    have l12 := Env.le_trans l1 l2
    refine (ih (by have := (Env.le_len l12).2.2; omega) (ho.mono l12) (i + 1)).bind ?_
    rintro xs ρ3 h3 w3 l3 ⟨rfl, hp3, hoks, hlen, hall⟩
    have hx3 := hx.mono l3
    refine MSpec.ret ⟨rfl, by rw [hp3, hp2, hp1], ?_, by simp [hlen], fun j u e W hW => ?_⟩
    · simp only [SV.oks, Bool.and_eq_true]; exact ⟨hx3.1, hoks⟩
    · cases j with
      | zero =>
        simp only [SV.dens, List.getElem?_cons_zero, Option.some.injEq] at e
        rw [← e, hx3.2]
        have := at_add (n := n) (ho.mono l1) hoi hz
        rw [at_mono l1 hn ho] at this
        rw [← hc W (hW.mono r0 l1 (blk_of_hp hp1 n)), this]; simp
      | succ j =>
        simp only [SV.dens, List.getElem?_cons_succ] at e
        have := hall j u e W (hW.mono r0 l12 (blk_of_hp (by rw [hp2, hp1]) n))
        rw [at_mono l12 hn ho] at this
        rw [← this]; congr 2; omega
theorem rdCells_spec {n : Nat} (hn : n < ρ.bs.length) {o : At} {z : Int} (ho : AtIs ρ o z) (hz : 0 ≤ z) (i c : Nat) :
    MSpec Φ C (rdCells n o i c) ρ h w fun xs ρ' h' w' => w' = w ∧ h'.hp = h.hp ∧ SV.oks ρ'.is.length ρ'.bs.length xs = true ∧ xs.length = c ∧
      ∀ j v, (SV.dens ρ' xs)[j]? = some v → w.cell? ((ρ.at n o).add (i + j)) = some v :=
  MSpec.rep fun r => (rdCells_spec2 hn ho hz i c).mono (by
    rintro xs ρ' h' w' l ⟨e, hp, h1, h2, h3⟩
    exact ⟨e, hp, h1, h2, fun j v hj => h3 j v hj w (KW.self r n)⟩)

def ldVar (P : Program) (ro : List (Addr × Value)) (t : TypeId) : SV → M SV
  | .ptr n o =>
    match isAggT P t, sizeT P t with
    | some true, some s => do
      need .geq o (.c 0)
      let xs ← rdCells n o 0 s
      pure (.agg xs)
    | some false, _ => rdCell n o
    | _, _ => M.no 20
  | .raw (.pointer (some a)) =>
    match isAggT P t, ro.find? (·.1 == a) with
    | some false, some (_, v) => pure (ofConst v)
    | _, _ => M.no 21
  | _ => M.no 22

def RoOk (C : Ctx) (ro : List (Addr × Value)) : Prop := ∀ p ∈ ro, C.w0.cell? p.1 = some p.2 ∧ p.1.block < C.w0.heap.size ∧ p.1.block ∉ C.own

theorem run_load_ok {a : Addr} {v : Value} (w : World) (hc : w.cell? a = some v) (m : Mode) : (load a m).run P w = .ok v w := by simp [hc]

/-- Worlds in which what a pointer points to stands as the state says. -/
def PtrW (C : Ctx) (ρ : Env) (h : H) (x : SV) (W : World) : Prop := (∀ b, b < C.w0.heap.size → b ∉ C.own → W.heap[b]? = C.w0.heap[b]?) ∧ ∀ n o, x = .ptr n o → KW C ρ h n W
theorem PtrW.self (r : RepH C ρ h w) (x : SV) : PtrW C ρ h x w := ⟨r.frame.old, fun n _ _ => KW.self r n⟩
theorem Addr.add_block (a : Addr) (n : Nat) : (a.add n).block = a.block := by unfold Addr.add; split <;> rfl
theorem ldVar_spec2 {ro : List (Addr × Value)} (hro : RoOk C ro) {t : TypeId} {x : SV} {v : Value} (hx : SvIs ρ x v) :
    MSpec Φ C (ldVar P ro t x) ρ h w fun sv ρ' h' w' => w' = w ∧ h'.hp = h.hp ∧ ∃ u, SvIs ρ' sv u ∧ ∀ W, PtrW C ρ h x W → (Instr.loadAt t v).run P W = .ok u W := by
  refine MSpec.rep fun r0 => ?_
  unfold ldVar
  split
  · rename_i n o
    have hn : n < ρ.bs.length := by have := hx.1; simp only [SV.ok, Bool.and_eq_true, decide_eq_true_eq] at this; exact this.1
    have ho : AtIs ρ o (o.den ρ.is) := ⟨by have := hx.1; simp only [SV.ok, Bool.and_eq_true, decide_eq_true_eq] at this; exact this.2, rfl⟩
    have hv : v = .pointer (some (ρ.at n o)) := by rw [← hx.2]; rfl
    subst hv
    split
    · rename_i s e1 e2
      refine (need_spec ho (AtIs.c ρ 0)).bind ?_
      rintro _ ρ1 h1 w1 l1 ⟨rfl, hp1, c1⟩
      simp only [cmpB, decide_eq_true_eq] at c1
      refine (rdCells_spec2 (by have := (Env.le_len l1).2.2; omega) (ho.mono l1) c1 0 s).bind ?_
      rintro xs ρ2 h2 w2 l2 ⟨rfl, hp2, hok, hlen, hall⟩
      refine MSpec.ret ⟨rfl, by rw [hp2, hp1], .agg (SV.dens ρ2 xs).toArray, ⟨by rw [SV.ok]; exact hok, by rw [SV.den]⟩, fun W hW => ?_⟩
      rw [at_mono l1 hn ho] at hall
      have hKW := (hW.2 n o rfl).mono r0 l1 (blk_of_hp hp1 n)
      have hl := run_loadCells_list (P := P) (w := W) (ρ.at n o) (SV.dens ρ2 xs) (fun j v e => by have := hall j v e W hKW; simpa using this)
      have hsz : (SV.dens ρ2 xs).length = s := by rw [SV.dens_eq, List.length_map, hlen]
      rw [hsz] at hl
      simp [Instr.loadAt, Instr.sureAddr, loadVar, run_isAgg e1, run_sizeOf' e2, hl]
    · rename_i e1
      refine (rdCell_spec2 ho).mono ?_
      rintro sv ρ1 h1 w1 l1 ⟨rfl, hp1, u, hu, hc⟩
      exact ⟨rfl, hp1, u, hu, fun W hW => by have hc' := hc W (hW.2 n o rfl); simp [Instr.loadAt, Instr.sureAddr, loadVar, run_isAgg e1, hc']⟩
    · exact MSpec.no
  · rename_i a
    split
    · rename_i q u e1 e2
      have hm := List.mem_of_find?_eq_some e2
      have hq : q = a := by simpa using List.find?_some e2
      subst hq
      refine MSpec.ret ⟨rfl, rfl, u, ofConst_is ρ u, fun W hW => ?_⟩
      have hv : v = .pointer (some q) := by rw [← hx.2]; rfl
      subst hv
      have := hro _ hm
      have hc' : W.cell? q = some u := by
        unfold World.cell?
        rw [hW.1 _ this.2.1 this.2.2]
        exact this.1
      simp [Instr.loadAt, Instr.sureAddr, loadVar, run_isAgg e1, hc']
    · exact MSpec.no
  · exact MSpec.no

theorem ldVar_spec {ro : List (Addr × Value)} (hro : RoOk C ro) {t : TypeId} {x : SV} {v : Value} (hx : SvIs ρ x v) :
    MSpec Φ C (ldVar P ro t x) ρ h w fun sv ρ' h' w' => w' = w ∧ h'.hp = h.hp ∧ Does P (Instr.loadAt t v) w sv ρ' h' w' := by
  refine MSpec.rep fun r => (ldVar_spec2 hro hx).mono ?_
  rintro sv ρ' h' w' l ⟨e, hp, u, hu, hr⟩
  subst e
  exact ⟨rfl, hp, u, hu, hr _ (PtrW.self r x)⟩

/-! ### Stores -/
def SV.flat : SV → Option (List SV)
  | .agg xs => some xs
  | .tup _ => none
  | .raw v => if v.oneCell' then some [.raw v] else none
  | x => some [x]
theorem flat_is {x : SV} {v : Value} {xs : List SV} (hx : SvIs ρ x v) (e : x.flat = some xs) : SV.oks ρ.is.length ρ.bs.length xs = true ∧ v.cells = (SV.dens ρ xs).toArray := by
  obtain ⟨h1, rfl⟩ := hx
  cases x <;> simp only [SV.flat] at e <;> try (cases e; done)
  case agg ys => cases e; exact ⟨by rw [SV.ok] at h1; exact h1, by rw [SV.den]; rfl⟩
  case raw u =>
    split at e
    · rename_i hu
      cases e
      refine ⟨rfl, ?_⟩
      simp only [SV.den, SV.dens]
      cases u <;> simp_all [Value.cells, Value.oneCell']
    · cases e
  case vec n l c =>
    cases e
    refine ⟨by simpa [SV.oks] using h1, ?_⟩
    simp only [SV.den, SV.dens]
    split <;> rfl
  all_goals
    cases e
    refine ⟨by simpa [SV.oks] using h1, by simp [SV.den, SV.dens, Value.cells]⟩

def wrCells (n : Nat) (o : At) : Nat → List SV → M Unit
  | _, [] => pure ()
  | i, x :: xs => do
    let oi ← mkI (.add o (.c i))
    wrCell n oi x
    wrCells n o (i + 1) xs
theorem run_store_ok {a : Addr} {v : Value} {w w' : World} (hs : Stores w a v w') : (store a v).run P w = .ok () w' := by
  obtain ⟨⟨u, hu⟩, hf, h1, rfl⟩ := hs
  rw [run_store P w a v _ h1]
  simp [hu, hf]
theorem wrCells_spec {n : Nat} (hn : n < ρ.bs.length) {o : At} {z : Int} (ho : AtIs ρ o z) (hz : 0 ≤ z) (xs : List SV) (hok : SV.oks ρ.is.length ρ.bs.length xs = true) (i : Nat) :
    MSpec Φ C (wrCells n o i xs) ρ h w fun _ ρ' h' w' => (storeCells (ρ.at n o) (SV.dens ρ xs) i).run P w = .ok () w' := by
  induction xs generalizing ρ h w i with
  | nil => exact MSpec.ret rfl
  | cons x xs ih =>
    simp only [SV.oks, Bool.and_eq_true] at hok
    unfold wrCells
    refine (mkI_ok (by simp [IOp.okB, IOp.atoms, At.lt]; exact ho.1)).bind ?_
    rintro oi ρ1 h1 w1 l1 ⟨rfl, hp1, hoi⟩
    simp only [IOp.den, ho.val, At.den_c] at hoi
    have hx : SvIs ρ x (SV.den ρ x) := ⟨hok.1, rfl⟩
    refine (wrCell_spec hoi (hx.mono l1)).bind ?_
    rintro _ ρ2 h2 w2 l2 hs
    have l12 := Env.le_trans l1 l2
    have hoks2 : SV.oks ρ2.is.length ρ2.bs.length xs = true := SV.oks_mono (Env.le_len l12).1 (Env.le_len l12).2.2 xs hok.2
    refine (ih (by have := (Env.le_len l12).2.2; omega) (ho.mono l12) hoks2 (i + 1)).mono ?_
    rintro _ ρ3 h3 w3 l3 hr
    have ha := at_add (n := n) (ho.mono l1) hoi hz
    rw [at_mono l1 hn ho] at ha
    rw [ha] at hs
    have hd : SV.dens ρ2 xs = SV.dens ρ xs := by obtain ⟨τ, rfl⟩ := l12; exact SV.dens_app xs hok.2
    rw [at_mono l12 hn ho, hd] at hr
    simp only [SV.dens, storeCells, Sem.run_bind, run_store_ok hs, Result.andThen_ok]
    exact hr

def stVar (P : Program) (t : TypeId) (p x : SV) : M Unit :=
  match p with
  | .ptr n o =>
    match x.flat with
    | some xs => if sizeT P t = some xs.length then (do
        need .geq o (.c 0)
        wrCells n o 0 xs) else M.no 23
    | none => M.no 24
  | _ => M.no 25
theorem stVar_spec {t : TypeId} {p x : SV} {u v : Value} (hp : SvIs ρ p u) (hx : SvIs ρ x v) :
    MSpec Φ C (stVar P t p x) ρ h w (DoesU P (Instr.storeAt t u v) w) := by
  unfold stVar
  split
  · rename_i n o
    have hn : n < ρ.bs.length := by have := hp.1; simp only [SV.ok, Bool.and_eq_true, decide_eq_true_eq] at this; exact this.1
    have ho : AtIs ρ o (o.den ρ.is) := ⟨by have := hp.1; simp only [SV.ok, Bool.and_eq_true, decide_eq_true_eq] at this; exact this.2, rfl⟩
    have hu : u = .pointer (some (ρ.at n o)) := by rw [← hp.2]; rfl
    subst hu
    split
    · rename_i xs ef
      obtain ⟨hok, hcells⟩ := flat_is hx ef
      split
      · rename_i es
        refine (need_spec ho (AtIs.c ρ 0)).bind ?_
        rintro _ ρ1 h1 w1 l1 ⟨rfl, hp1, c1⟩
        simp only [cmpB, decide_eq_true_eq] at c1
        have hoks1 : SV.oks ρ1.is.length ρ1.bs.length xs = true := SV.oks_mono (Env.le_len l1).1 (Env.le_len l1).2.2 xs hok
        refine (wrCells_spec (P := P) (by have := (Env.le_len l1).2.2; omega) (ho.mono l1) c1 xs hoks1 0).mono ?_
        rintro _ ρ2 h2 w2 l2 hr
        have hd : SV.dens ρ1 xs = SV.dens ρ xs := by obtain ⟨τ, rfl⟩ := l1; exact SV.dens_app xs hok
        rw [at_mono l1 hn ho, hd] at hr
        have hsz : (SV.dens ρ xs).length = xs.length := by rw [SV.dens_eq]; simp
        simp [DoesU, Instr.storeAt, Instr.sureAddr, storeVar, run_sizeOf' es, hsz, hcells, hr]
      · exact MSpec.no
    · exact MSpec.no
  · exact MSpec.no

/-! ### New blocks -/
def newBlk (xs : List SV) (elem : TypeId) : M SV := fun h k =>
  k (.ptr h.nb (.c 0)) { h with hp := (h.nb, .cells xs (.c xs.length) elem) :: h.hp, nb := h.nb + 1 }
theorem newBlk_spec {xs : List SV} {elem : TypeId} (hok : SV.oks ρ.is.length ρ.bs.length xs = true) :
    MSpec Φ C (newBlk xs elem) ρ h w fun sv ρ' h' w' => SvIs ρ' sv (.pointer (some ⟨w.heap.size, 0, none⟩)) ∧ w' = w.alloc (.cells (SV.dens ρ xs).toArray elem (0, 0)) := by
  intro r k hk
  have hat : (ρ.pushB w.heap.size).b h.nb = (w.heap.size, 0) := by rw [← r.nb]; exact pushB_at ρ _
  refine ⟨.ptr h.nb (.c 0), ρ.pushB w.heap.size, _, _, Env.le_app _ _, r.alloc (b := .cells xs (.c xs.length) elem) (.cells (SV.dens ρ xs).toArray elem (0, 0)) ?_ ?_ ?_, ?_, ?_, rfl⟩
  · simp [Blk.phys, hat]
  · simp only [Blk.inB, Bool.and_eq_true]; exact ⟨hok, rfl⟩
  · simp only [Blk.holds]
    rw [hat]
    refine ⟨rfl, [], ?_, ?_⟩
    · have : SV.dens (ρ.pushB w.heap.size) xs = SV.dens ρ xs := SV.dens_app xs hok
      rw [this, List.append_nil]
      exact heap_alloc_new w _
    · simp [SV.dens_eq]
  · have hk' : Tree.den Φ (k (SV.ptr h.nb (At.c 0)) { h with hp := (h.nb, .cells xs (.c xs.length) elem) :: h.hp, nb := h.nb + 1 }) ρ.is ρ.ls := hk
    simpa [Env.pushB, Env.app] using hk'
  · refine ⟨by simp [SV.ok, Env.pushB, Env.app, r.nb, At.lt], ?_⟩
    simp only [SV.den, Env.at, hat]
    simp
end

end Go.Sx
