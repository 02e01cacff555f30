/- The operations that are no calls (2). -/
import Derived.Test.YthjfkblnbecjgaaGreatDoorSxK
set_option linter.unusedVariables false
namespace Go.Sx

def unM (op : UnOp) (x : SV) : M SV :=
  match op, x with
  | .not, .b a => do let c ← mkI (.not a); pure (.b c)
  | .neg, .i k a => arith .sub k (.c 0) a
  | .xor, .i k a => arith .xor k (.c (if k.signed then -1 else k.max)) a
  | _, _ => M.no 80
def convM (P : Program) (src dst : TypeId) (x : SV) : M SV :=
  match x with
  | .i _ a => (match P.underlying src, P.underlying dst with
    | some _, some (.int k) => do let y ← mkI (.wr k a); pure (.i k y)
    | _, _ => M.no 81)
  | .raw (.string s) => (match P.underlying src, P.underlying dst with
    | some _, some .string => pure (.raw (.string s))
    | _, _ => M.no 82)
  | _ => M.no 83
def pickM (c a b : Option SV) : M SV :=
  match c with
  | some (.b p) => do
    let t ← dec p
    if t then lift a else lift b
  | _ => M.no 84
def boxM (elem : TypeId) (x : SV) : M SV :=
  match x.flat with
  | some xs => newBlk xs elem
  | none => M.no 85
def allocM (P : Program) (elem : TypeId) : M SV :=
  match zeroT P elem with
  | some z => boxM elem (ofConst z)
  | none => M.no 86
/-- Parts of an aggregate put into their places. -/
def putAll (cells : List SV) (off : Nat) : List SV → List SV
  | [] => cells
  | x :: xs => putAll (cells.set off x) (off + 1) xs
def fillS (place : Nat → Option (Nat × Nat)) (cells : List SV) : List (Nat × Option SV) → Option (List SV)
  | [] => some cells
  | (i, x) :: rest =>
    match place i, x.bind SV.flat with
    | some (off, size), some xs => if xs.length = size ∧ off + xs.length ≤ cells.length then fillS place (putAll cells off xs) rest else none
    | _, _ => none
def placesT (P : Program) : List Field → Option (List (Nat × Nat))
  | [] => some []
  | f :: fs => match sizeT P f.type, placesT P fs with
    | some s, some r => some ((f.offset, s) :: r)
    | _, _ => none
def zeroCellsT (P : Program) (t : TypeId) : Option (List SV) := (zeroT P t).bind fun z => (ofConst z).flat
def buildM (P : Program) (t : TypeId) (parts : List (Nat × Option SV)) : M SV :=
  match zeroCellsT P t, P.underlying t with
  | some zs, some (.struct fs) => (match placesT P fs.toList with
    | some ps => (match fillS (fun i => ps[i]?) zs parts with
      | some cs => pure (.agg cs)
      | none => M.no 87)
    | none => M.no 88)
  | some zs, some (.array _ elem) => (match sizeT P elem with
    | some s => (match fillS (fun i => some (i * s, s)) zs parts with
      | some cs => pure (.agg cs)
      | none => M.no 89)
    | none => M.no 90)
  | _, _ => M.no 91
def repeatZ (zs : List SV) : Nat → List SV
  | 0 => []
  | n + 1 => zs ++ repeatZ zs n
def buildSliceM (P : Program) (t : TypeId) (len : Nat) (parts : List (Nat × Option SV)) : M SV :=
  match P.underlying t with
  | some (.slice elem) => (match sizeT P elem, zeroCellsT P elem with
    | some s, some zs => if zs.length = s ∧ len * s ≤ 4096 ∧ 0 < len * s then (match fillS (fun i => some (i * s, s)) (repeatZ zs len) parts with
        | some cs => do
          let p ← newBlk cs elem
          match p with
          | .ptr n o => pure (.slc n o (.c len) (.c len))
          | _ => M.no 92
        | none => M.no 93) else M.no 94
    | _, _ => M.no 95)
  | _ => M.no 96
def nilChk (x : SV) : M SV :=
  match x with
  | .ptr n o => pure (.ptr n o)
  | .raw (.pointer (some a)) => pure (.raw (.pointer (some a)))
  | .iface t y => pure (.iface t y)
  | .fn (.func f) cs => pure (.fn (.func f) cs)
  | _ => M.no 97
def fieldM (P : Program) (t : TypeId) (x : SV) (i : Nat) : M SV :=
  match x, P.underlying t with
  | .agg xs, some (.struct fs) => (match fs[i]? with
    | some f => (match isAggT P f.type, sizeT P f.type, xs[f.offset]? with
      | some true, some s, _ => pure (.agg ((xs.drop f.offset).take s))
      | some false, _, some y => pure y
      | _, _, _ => M.no 98)
    | none => M.no 99)
  | _, _ => M.no 100
def fieldAddrM (P : Program) (t : TypeId) (x : SV) (i : Nat) : M SV :=
  match x, P.underlying t with
  | .ptr n o, some (.struct fs) => (match fs[i]? with
    | some f => (match sizeT P f.type with
      | some (s + 1) => do
        need .geq o (.c 0)
        let o' ← mkI (.add o (.c f.offset))
        pure (.ptr n o')
      | _ => M.no 101)
    | none => M.no 102)
  | _, _ => M.no 103
/-- A slice that is the whole of its block: if it is nil it has no element. -/
def vecFact (h : H) (n : Nat) (len cap : At) : Bool :=
  match h.blk n with
  | some (.arr _ _ bl sz _) => decide (bl = len) && decide (sz = cap)
  | _ => false
def vecHas (n : Nat) (len cap : At) : M Unit := fun h k => if vecFact h n len cap then k () h else need .neq cap (.c 0) h k
def indexAddrM (P : Program) (t : TypeId) (x i : SV) : M SV :=
  match x, i with
  | .ptr n o, .i _ a => (match P.underlying t with
    | some (.array len elem) => (match sizeT P elem with
      | some s => do
        let a ← idxAt n a
        need .geq o (.c 0)
        need .geq a (.c 0)
        need .lss a (.c len)
        let m ← mkI (.mul a (.c s))
        let o' ← mkI (.add o m)
        pure (.ptr n o')
      | none => M.no 104)
    | _ => M.no 105)
  | .slc n o len _, .i _ a => (match P.underlying t with
    | some (.slice elem) => (match sizeT P elem with
      | some s => do
        let a ← idxAt n a
        need .geq o (.c 0)
        need .geq a (.c 0)
        need .lss a len
        let m ← mkI (.mul a (.c s))
        let o' ← mkI (.add o m)
        pure (.ptr n o')
      | none => M.no 106)
    | _ => M.no 107)
  | .vec n len cap, .i _ a => (match P.underlying t with
    | some (.slice elem) => (match sizeT P elem with
      | some s => do
        let a ← idxAt n a
        vecHas n len cap
        need .geq a (.c 0)
        need .lss a len
        let m ← mkI (.mul a (.c s))
        pure (.ptr n m)
      | none => M.no 106)
    | _ => M.no 107)
  | _, _ => M.no 108
def oneKindOf : List (CK × At) → Option CK
  | [] => none
  | q :: r => if r.all fun p => decide (p.1 = q.1) then some q.1 else none
/-- A number of a list of numbers. -/
def pickNum (qs : List (CK × At)) (a : At) : M SV :=
  match oneKindOf qs with
  | some k => do
    need .geq a (.c 0)
    need .lss a (.c qs.length)
    let l ← mkL (.lit (qs.map (·.2)))
    let v ← mkI (.get l a)
    pure (k.sv v)
  | none => M.no 116
def bytesQ (s : ByteArray) : List (CK × At) := s.data.toList.map fun b => (.i .u8, .c b.toNat)
def indexM (P : Program) (t : TypeId) (x i : SV) : M SV := fun h kk =>
  match x, i with
  | .agg xs, .i _ a => (match P.underlying t with
    | some (.array len elem) => (match sizeT P elem, isAggT P elem with
      | some s, some true => (do
        let j ← splitAt a
        if 0 ≤ j ∧ j < len then pure (.agg ((xs.drop (j.toNat * s)).take s)) else M.no 109 : M SV) h kk
      | some s, some false => (match h.fixed a with
        | some j => (if 0 ≤ j ∧ j < len then lift (xs[j.toNat * s]?) else M.no 110 : M SV) h kk
        | none => (match numsOf xs with
          | some qs => (if s = 1 ∧ len = xs.length then pickNum qs a else M.no 111 : M SV) h kk
          | none => (do
            let j ← splitAt a
            if 0 ≤ j ∧ j < len then lift (xs[j.toNat * s]?) else M.no 110 : M SV) h kk))
      | _, _ => .fail 111)
    | _ => .fail 112)
  | .raw (.string s), .i _ a => (match P.underlying t with
    | some .string => (match h.fixed a with
      | some j => (if 0 ≤ j then (match s[j.toNat]? with
        | some b => pure (.i .u8 (.c b.toNat))
        | none => M.no 113) else M.no 114 : M SV) h kk
      | none => pickNum (bytesQ s) a h kk)
    | _ => .fail 115)
  | _, _ => .fail 116
def extractM (x : SV) (i : Nat) : M SV :=
  match x with
  | .tup xs => lift (xs[i]?)
  | _ => M.no 117
def mkIfaceM (P : Program) (t : TypeId) (x : SV) : M SV := if P.concrete t then pure (.iface t x) else M.no 118
def allSome : List (Option SV) → Option (List SV)
  | [] => some []
  | some x :: r => (allSome r).map (x :: ·)
  | none :: _ => none

section
variable {Φ : Phi} {C : Ctx} {ρ : Env} {h : H} {w : World} {P : Program}

def DoesV (P : Program) (w : World) (h : H) (s : Sem Value) : SV → Env → H → World → Prop := fun sv ρ' h' w' => w' = w ∧ h'.hp = h.hp ∧ DoesA P s sv ρ'

theorem lift_spec {x : Option SV} {v : Value} (hx : ∀ y, x = some y → SvIs ρ y v) {s : Sem Value} (hs : ∀ W : World, s.run P W = .ok v W) : MSpec Φ C (lift x) ρ h w (DoesV P w h s) := by
  unfold lift
  split
  · exact MSpec.ret ⟨rfl, rfl, v, hx _ rfl, hs⟩
  · exact MSpec.no

theorem unM_spec {op : UnOp} {x : SV} {u : Value} (hx : SvIs ρ x u) : MSpec Φ C (unM op x) ρ h w (DoesV P w h (Op.unary op u)) := by
  unfold unM
  split
  · rename_i a
    obtain ⟨ha, rfl⟩ := hx.bool
    refine (not_spec ha).bind ?_
    rintro c ρ1 h1 w1 l1 ⟨rfl, hp1, hc⟩
    refine MSpec.ret ⟨rfl, hp1, _, hc.svb, fun W => ?_⟩
    simp [Op.unary, bne]
  · rename_i k a
    obtain ⟨ha, rfl⟩ := hx.int
    refine (arith_spec (P := P) (AtIs.c ρ 0) ha (by decide) (by decide) 0).mono ?_
    rintro sv ρ' h' w' l ⟨rfl, hp, z, hz, hr⟩
    exact ⟨rfl, hp, z, hz, fun W => by simpa [binOp, Op.unary] using hr W⟩
  · rename_i k a
    obtain ⟨ha, rfl⟩ := hx.int
    refine (arith_spec (P := P) (AtIs.c ρ (if k.signed then -1 else k.max)) ha (by decide) (by decide) 0).mono ?_
    rintro sv ρ' h' w' l ⟨rfl, hp, z, hz, hr⟩
    exact ⟨rfl, hp, z, hz, fun W => by simpa [binOp, Op.unary] using hr W⟩
  · exact MSpec.no

theorem wr_spec {k : IntKind} {a : At} {x : Int} (ha : AtIs ρ a x) : MSpec Φ C (mkI (.wr k a)) ρ h w fun r ρ' h' w' => w' = w ∧ h'.hp = h.hp ∧ AtIs ρ' r (k.wrap x) := by
  refine (mkI_ok (okB1 ha.1 (.wr k a) rfl rfl)).mono ?_
  rintro r ρ' h' w' l ⟨rfl, hp, hr⟩
  simp only [IOp.den, ha.val] at hr
  exact ⟨rfl, hp, hr⟩
theorem add_spec {a b : At} {x y : Int} (ha : AtIs ρ a x) (hb : AtIs ρ b y) : MSpec Φ C (mkI (.add a b)) ρ h w fun r ρ' h' w' => w' = w ∧ h'.hp = h.hp ∧ AtIs ρ' r (x + y) := by
  refine (mkI_ok (okB2 ha.1 hb.1 (.add a b) rfl rfl)).mono ?_
  rintro r ρ' h' w' l ⟨rfl, hp, hr⟩
  simp only [IOp.den, ha.val, hb.val] at hr
  exact ⟨rfl, hp, hr⟩
theorem mul_spec {a b : At} {x y : Int} (ha : AtIs ρ a x) (hb : AtIs ρ b y) : MSpec Φ C (mkI (.mul a b)) ρ h w fun r ρ' h' w' => w' = w ∧ h'.hp = h.hp ∧ AtIs ρ' r (x * y) := by
  refine (mkI_ok (okB2 ha.1 hb.1 (.mul a b) rfl rfl)).mono ?_
  rintro r ρ' h' w' l ⟨rfl, hp, hr⟩
  simp only [IOp.den, ha.val, hb.val] at hr
  exact ⟨rfl, hp, hr⟩

theorem convM_spec {src dst : TypeId} {x : SV} {u : Value} (hx : SvIs ρ x u) : MSpec Φ C (convM P src dst x) ρ h w (DoesV P w h (convert src dst u)) := by
  unfold convM
  split
  · rename_i k a
    obtain ⟨ha, rfl⟩ := hx.int
    split
    · rename_i d k' e1 e2
      refine (wr_spec ha).bind ?_
      rintro y ρ1 h1 w1 l1 ⟨rfl, hp1, hy⟩
      refine MSpec.ret ⟨rfl, hp1, _, hy.svi, fun W => ?_⟩
      simp only [convert, Sem.run_bind, run_underlying e1, run_underlying e2, Result.andThen_ok]
      rfl
    · exact MSpec.no
  · rename_i s
    obtain rfl := hx.raw
    split
    · rename_i d e1 e2
      refine MSpec.ret ⟨rfl, rfl, _, hx, fun W => ?_⟩
      simp only [convert, Sem.run_bind, run_underlying e1, run_underlying e2, Result.andThen_ok]
      rfl
    · exact MSpec.no
  · exact MSpec.no

theorem pickM_spec {c a b : Option SV} {cv av bv : Value} (hc : ∀ y, c = some y → SvIs ρ y cv) (ha : ∀ y, a = some y → SvIs ρ y av) (hb : ∀ y, b = some y → SvIs ρ y bv) :
    MSpec Φ C (pickM c a b) ρ h w (DoesV P w h (do pure (if ← asBool cv then av else bv))) := by
  unfold pickM
  split
  · rename_i p
    obtain ⟨hp, rfl⟩ := (hc _ rfl).bool
    refine (dec_spec hp).bind ?_
    rintro t ρ1 h1 w1 l1 ⟨rfl, hp1, ht⟩
    have hrun : ∀ W : World, ((do pure (if ← asBool (.bool (At.den ρ.is p != 0)) then av else bv)) : Sem Value).run P W = .ok (if t then av else bv) W := by
      intro W; rw [ht]; cases t <;> simp [asBool]
    cases t
    · refine (lift_spec (P := P) (v := bv) (fun y hy => (hb y hy).mono l1) hrun).mono ?_
      rintro sv ρ' h' w' l ⟨rfl, hp, hd⟩
      exact ⟨rfl, by rw [hp, hp1], hd⟩
    · refine (lift_spec (P := P) (v := av) (fun y hy => (ha y hy).mono l1) hrun).mono ?_
      rintro sv ρ' h' w' l ⟨rfl, hp, hd⟩
      exact ⟨rfl, by rw [hp, hp1], hd⟩
  · exact MSpec.no

theorem boxM_spec {elem : TypeId} {x : SV} {v : Value} (hx : SvIs ρ x v) : MSpec Φ C (boxM elem x) ρ h w (Does P (Instr.box elem v) w) := by
  unfold boxM
  split
  · rename_i xs e
    obtain ⟨hok, hc⟩ := flat_is hx e
    refine (newBlk_spec hok).mono ?_
    rintro sv ρ' h' w' l ⟨hs, rfl⟩
    exact ⟨_, hs, by simp [Instr.box, newVar, newRow, hc]⟩
  · exact MSpec.no
theorem allocM_spec {elem : TypeId} : MSpec Φ C (allocM P elem) ρ h w (Does P (Instr.alloc elem true (.tuple #[])) w) := by
  unfold allocM
  split
  · rename_i z e
    refine (boxM_spec (P := P) (ofConst_is ρ z)).mono ?_
    rintro sv ρ' h' w' l ⟨v, hv, hr⟩
    refine ⟨v, hv, ?_⟩
    simp only [Instr.box] at hr
    simp only [Instr.alloc, Sem.run_bind, run_zeroValue' e, Result.andThen_ok]
    exact hr
  · exact MSpec.no

theorem putAll_is {ρ : Env} : ∀ (xs : List SV) (cells : List SV) (off : Nat), SV.oks ρ.is.length ρ.bs.length cells = true → SV.oks ρ.is.length ρ.bs.length xs = true →
    SV.oks ρ.is.length ρ.bs.length (putAll cells off xs) = true ∧ (putAll cells off xs).length = cells.length ∧
    ∀ k, ((SV.dens ρ xs).zipIdx k).foldl (fun (cs : Array Value) (c : Value × Nat) => cs.setIfInBounds (off + c.2 - k) c.1) (SV.dens ρ cells).toArray = (SV.dens ρ (putAll cells off xs)).toArray
  | [], cells, off, h1, _ => ⟨h1, rfl, fun k => by simp [SV.dens, putAll]⟩
  | x :: xs, cells, off, h1, h2 => by
    simp only [SV.oks, Bool.and_eq_true] at h2
    have ih := putAll_is (ρ := ρ) xs (cells.set off x) (off + 1) (oks_set h1 h2.1) h2.2
    refine ⟨ih.1, by rw [putAll, ih.2.1, List.length_set], fun k => ?_⟩
    have := ih.2.2 (k + 1)
    rw [putAll, ← this]
    simp only [SV.dens, List.zipIdx_cons, List.foldl_cons]
    have e1 : (SV.dens ρ cells).toArray.setIfInBounds (off + k - k) (SV.den ρ x) = (SV.dens ρ (cells.set off x)).toArray := by
      rw [dens_set, Nat.add_sub_cancel]; simp
    rw [e1]
    congr 1
    funext cs c
    congr 1
    omega
theorem putAll_fold {ρ : Env} {xs cells : List SV} {off : Nat} (h1 : SV.oks ρ.is.length ρ.bs.length cells = true) (h2 : SV.oks ρ.is.length ρ.bs.length xs = true) :
    (SV.dens ρ xs).toArray.zipIdx.foldl (fun (cs : Array Value) (c : Value × Nat) => cs.setIfInBounds (off + c.2) c.1) (SV.dens ρ cells).toArray = (SV.dens ρ (putAll cells off xs)).toArray := by
  have := (putAll_is (ρ := ρ) xs cells off h1 h2).2.2 0
  rw [← Array.foldl_toList, Array.toList_zipIdx]
  simpa using this
/-- What the parts read as. -/
def PartsAre (ρ : Env) : List (Nat × Option SV) → List (Nat × Value) → Prop
  | [], [] => True
  | (i, x) :: r, (j, v) :: s => i = j ∧ (∀ y, x = some y → SvIs ρ y v) ∧ PartsAre ρ r s
  | _, _ => False
theorem fillS_is {ρ : Env} {place : Nat → Option (Nat × Nat)} : ∀ (ps : List (Nat × Option SV)) (vs : List (Nat × Value)) (cells out : List SV), PartsAre ρ ps vs → SV.oks ρ.is.length ρ.bs.length cells = true →
    fillS place cells ps = some out → SV.oks ρ.is.length ρ.bs.length out = true ∧ out.length = cells.length ∧ Instr.fill place (SV.dens ρ cells).toArray vs = some (SV.dens ρ out).toArray
  | [], [], cells, out, _, h1, e => by cases e; exact ⟨h1, rfl, rfl⟩
  | [], _ :: _, _, _, hp, _, _ => hp.elim
  | _ :: _, [], _, _, hp, _, _ => by cases hp
  | (i, x) :: ps, (j, v) :: vs, cells, out, hp, h1, e => by
    obtain ⟨rfl, hx, hr⟩ := hp
    unfold fillS at e
    split at e
    · rename_i off size xs ep ef
      cases x with
      | none => cases ef
      | some y =>
        simp only [Option.bind_some] at ef
        obtain ⟨hok, hc⟩ := flat_is (hx y rfl) ef
        split at e
        · rename_i hl
          have hpa := putAll_is (ρ := ρ) xs cells off h1 hok
          have ih := fillS_is ps vs _ out hr hpa.1 e
          refine ⟨ih.1, by rw [ih.2.1, hpa.2.1], ?_⟩
          unfold Instr.fill
          rw [ep]
          simp only
          have hlen : (SV.dens ρ xs).length = xs.length := by rw [SV.dens_eq]; simp
          have hlen2 : (SV.dens ρ cells).length = cells.length := by rw [SV.dens_eq]; simp
          rw [hc]
          rw [if_neg (by simp [hlen, hlen2]; omega), putAll_fold h1 hok]
          exact ih.2.2
        · cases e
    · cases e

theorem zeroCellsT_is {t : TypeId} {zs : List SV} (e : zeroCellsT P t = some zs) (w : World) : ∃ z, zeroT P t = some z ∧ (∀ ρ : Env, SV.oks ρ.is.length ρ.bs.length zs = true) ∧ ∀ ρ : Env, z.cells = (SV.dens ρ zs).toArray := by
  unfold zeroCellsT at e
  cases ez : zeroT P t with
  | none => rw [ez] at e; cases e
  | some z =>
    rw [ez] at e
    simp only [Option.bind_some] at e
    exact ⟨z, rfl, fun ρ => (flat_is (ofConst_is ρ z) e).1, fun ρ => (flat_is (ofConst_is ρ z) e).2⟩
theorem placesT_run {w : World} : ∀ (fs : List Field) (ps : List (Nat × Nat)), placesT P fs = some ps → ((fs.mapM fun f => Prod.mk f.offset <$> sizeOf f.type : Sem (List (Nat × Nat)))).run P w = .ok ps w
  | [], ps, e => by cases e; simp
  | f :: fs, ps, e => by
    unfold placesT at e
    split at e
    · rename_i s r es er
      cases e
      simp [List.mapM_cons, run_sizeOf' es, placesT_run fs r er]
    · cases e
theorem placesT_runA {w : World} (fs : Array Field) (ps : List (Nat × Nat)) (e : placesT P fs.toList = some ps) : ((fs.mapM fun f => do pure (f.offset, ← sizeOf f.type) : Sem (Array (Nat × Nat)))).run P w = .ok ps.toArray w := by
  rw [Array.mapM_eq_mapM_toList]
  simp [placesT_run (w := w) fs.toList ps e]

theorem buildM_spec {t : TypeId} {ps : List (Nat × Option SV)} {vs : Array (Nat × Value)} (hp : PartsAre ρ ps vs.toList) :
    MSpec Φ C (buildM P t ps) ρ h w (DoesV P w h (Instr.build t vs)) := by
  unfold buildM
  split
  · rename_i zs fs e1 e2
    obtain ⟨z, ez, hzo, hzc⟩ := zeroCellsT_is e1 w
    split
    · rename_i pl ep
      split
      · rename_i cs ef
        have hf := fillS_is ps vs.toList zs cs hp (hzo ρ) ef
        refine MSpec.ret ⟨rfl, rfl, .agg (SV.dens ρ cs).toArray, ⟨by rw [SV.ok]; exact hf.1, by rw [SV.den]⟩, fun W => ?_⟩
        have hfill : Instr.fill (fun x => pl.toArray[x]?) z.cells vs.toList = some (SV.dens ρ cs).toArray := by
          rw [hzc ρ]; simpa using hf.2.2
        simp only [Instr.build, Sem.run_bind, run_zeroValue' ez, Result.andThen_ok, run_underlying e2, placesT_runA fs pl ep]
        rw [hfill]; rfl
      · exact MSpec.no
    · exact MSpec.no
  · rename_i zs n elem e1 e2
    obtain ⟨z, ez, hzo, hzc⟩ := zeroCellsT_is e1 w
    split
    · rename_i s es
      split
      · rename_i cs ef
        have hf := fillS_is ps vs.toList zs cs hp (hzo ρ) ef
        refine MSpec.ret ⟨rfl, rfl, .agg (SV.dens ρ cs).toArray, ⟨by rw [SV.ok]; exact hf.1, by rw [SV.den]⟩, fun W => ?_⟩
        have hfill : Instr.fill (fun i => some (i * s, s)) z.cells vs.toList = some (SV.dens ρ cs).toArray := by
          rw [hzc ρ]; exact hf.2.2
        simp only [Instr.build, Sem.run_bind, run_zeroValue' ez, Result.andThen_ok, run_underlying e2, run_sizeOf' es]
        rw [hfill]; rfl
      · exact MSpec.no
    · exact MSpec.no
  · exact MSpec.no
end
end Go.Sx
