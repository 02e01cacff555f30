/- The executor: texts of it, one behind another. -/
import Derived.Test.YtpmgfdakljjlaaaGreatDoorSxM2
set_option linter.unusedVariables false
set_option linter.constructorNameAsVariable false
/- The operations that are no calls (2). -/
set_option linter.unusedVariables false
namespace Go.Sx

def unM (op : UnOp) (x : SV) : M SV :=
  match op, x with
  | .not, .b a => do let c ← mkI (.not a); pure (.b c)
  | .neg, .i k a => arith .sub k (.c 0) a
  | .xor, .i k a => arith .xor k (.c (if k.signed then -1 else k.max)) a
  | _, _ => M.no 80
def convM (P : Program) (src dst : TypeId) (x : SV) : M SV :=
  match x with
  | .i _ a => (match P.underlying src, P.underlying dst with
    | some _, some (.int k) => do let y ← mkI (.wr k a); pure (.i k y)
    | _, _ => M.no 81)
  | .raw (.string s) => (match P.underlying src, P.underlying dst with
    | some _, some .string => pure (.raw (.string s))
    | _, _ => M.no 82)
  | _ => M.no 83
def pickM (c a b : Option SV) : M SV :=
  match c with
  | some (.b p) => do
    let t ← dec p
    if t then lift a else lift b
  | _ => M.no 84
def boxM (elem : TypeId) (x : SV) : M SV :=
  match x.flat with
  | some xs => newBlk xs elem
  | none => M.no 85
def allocM (P : Program) (elem : TypeId) : M SV :=
  match zeroT P elem with
  | some z => boxM elem (ofConst z)
  | none => M.no 86
/-- Parts of an aggregate put into their places. -/
def putAll (cells : List SV) (off : Nat) : List SV → List SV
  | [] => cells
  | x :: xs => putAll (cells.set off x) (off + 1) xs
def fillS (place : Nat → Option (Nat × Nat)) (cells : List SV) : List (Nat × Option SV) → Option (List SV)
  | [] => some cells
  | (i, x) :: rest =>
    match place i, x.bind SV.flat with
    | some (off, size), some xs => if xs.length = size ∧ off + xs.length ≤ cells.length then fillS place (putAll cells off xs) rest else none
    | _, _ => none
def placesT (P : Program) : List Field → Option (List (Nat × Nat))
  | [] => some []
  | f :: fs => match sizeT P f.type, placesT P fs with
    | some s, some r => some ((f.offset, s) :: r)
    | _, _ => none
def zeroCellsT (P : Program) (t : TypeId) : Option (List SV) := (zeroT P t).bind fun z => (ofConst z).flat
def buildM (P : Program) (t : TypeId) (parts : List (Nat × Option SV)) : M SV :=
  match zeroCellsT P t, P.underlying t with
  | some zs, some (.struct fs) => (match placesT P fs.toList with
    | some ps => (match fillS (fun i => ps[i]?) zs parts with
      | some cs => pure (.agg cs)
      | none => M.no 87)
    | none => M.no 88)
  | some zs, some (.array _ elem) => (match sizeT P elem with
    | some s => (match fillS (fun i => some (i * s, s)) zs parts with
      | some cs => pure (.agg cs)
      | none => M.no 89)
    | none => M.no 90)
  | _, _ => M.no 91
def repeatZ (zs : List SV) : Nat → List SV
  | 0 => []
  | n + 1 => zs ++ repeatZ zs n
def buildSliceM (P : Program) (t : TypeId) (len : Nat) (parts : List (Nat × Option SV)) : M SV :=
  match P.underlying t with
  | some (.slice elem) => (match sizeT P elem, zeroCellsT P elem with
    | some s, some zs => if zs.length = s ∧ len * s ≤ 4096 ∧ 0 < s then (match fillS (fun i => some (i * s, s)) (repeatZ zs len) parts with
        | some cs => do
          let p ← newBlk cs elem
          match p with
          | .ptr n o => pure (.slc n o (.c len) (.c len))
          | _ => M.no 92
        | none => M.no 93) else M.no 94
    | _, _ => M.no 95)
  | _ => M.no 96
def nilChk (x : SV) : M SV :=
  match x with
  | .ptr n o => pure (.ptr n o)
  | .raw (.pointer (some a)) => pure (.raw (.pointer (some a)))
  | .iface t y => pure (.iface t y)
  | .fn (.func f) cs => pure (.fn (.func f) cs)
  | _ => M.no 97
def fieldM (P : Program) (t : TypeId) (x : SV) (i : Nat) : M SV :=
  match x, P.underlying t with
  | .agg xs, some (.struct fs) => (match fs[i]? with
    | some f => (match isAggT P f.type, sizeT P f.type, xs[f.offset]? with
      | some true, some s, _ => pure (.agg ((xs.drop f.offset).take s))
      | some false, _, some y => pure y
      | _, _, _ => M.no 98)
    | none => M.no 99)
  | _, _ => M.no 100
def fieldAddrM (P : Program) (t : TypeId) (x : SV) (i : Nat) : M SV :=
  match x, P.underlying t with
  | .ptr n o, some (.struct fs) => (match fs[i]? with
    | some f => (match sizeT P f.type with
      | some (s + 1) => do
        need .geq o (.c 0)
        let o' ← mkI (.add o (.c f.offset))
        pure (.ptr n o')
      | _ => M.no 101)
    | none => M.no 102)
  | _, _ => M.no 103
/-- A slice that is the whole of its block: if it is nil it has no element. -/
def vecFact (h : H) (n : Nat) (len cap : At) : Bool :=
  match h.blk n with
  | some (.arr _ _ bl sz _) => decide (bl = len) && decide (sz = cap)
  | _ => false
def vecHas (n : Nat) (len cap : At) : M Unit := fun h k => if vecFact h n len cap then k () h else need .neq cap (.c 0) h k
def indexAddrM (P : Program) (t : TypeId) (x i : SV) : M SV :=
  match x, i with
  | .ptr n o, .i _ a => (match P.underlying t with
    | some (.array len elem) => (match sizeT P elem with
      | some s => do
        let a ← idxAt n a
        need .geq o (.c 0)
        need .geq a (.c 0)
        need .lss a (.c len)
        let m ← mkI (.mul a (.c s))
        let o' ← mkI (.add o m)
        pure (.ptr n o')
      | none => M.no 104)
    | _ => M.no 105)
  | .slc n o len _, .i _ a => (match P.underlying t with
    | some (.slice elem) => (match sizeT P elem with
      | some s => do
        let a ← idxAt n a
        need .geq o (.c 0)
        need .geq a (.c 0)
        need .lss a len
        let m ← mkI (.mul a (.c s))
        let o' ← mkI (.add o m)
        pure (.ptr n o')
      | none => M.no 106)
    | _ => M.no 107)
  | .vec n len cap, .i _ a => (match P.underlying t with
    | some (.slice elem) => (match sizeT P elem with
      | some s => do
        let a ← idxAt n a
        vecHas n len cap
        need .geq a (.c 0)
        need .lss a len
        let m ← mkI (.mul a (.c s))
        pure (.ptr n m)
      | none => M.no 106)
    | _ => M.no 107)
  | _, _ => M.no 108
def oneKindOf : List (CK × At) → Option CK
  | [] => none
  | q :: r => if r.all fun p => decide (p.1 = q.1) then some q.1 else none
/-- A number of a list of numbers. -/
def pickNum (qs : List (CK × At)) (a : At) : M SV :=
  match oneKindOf qs with
  | some k => do
    need .geq a (.c 0)
    need .lss a (.c qs.length)
    let l ← mkL (.lit (qs.map (·.2)))
    let v ← mkI (.get l a)
    pure (k.sv v)
  | none => M.no 116
/-- The list of which these are the first numbers. -/
def H.getsFrom (h : H) (l : Nat) : Nat → List (CK × At) → Bool
  | _, [] => true
  | j, q :: r => (match q.2 with
    | .v i => (match h.defs.find? (·.1 == i) with
      | some (_, .get l' (.c c)) => decide (l' = l ∧ c = (j : Int))
      | _ => false)
    | .c _ => false) && h.getsFrom l (j + 1) r
def H.getsOf (h : H) (qs : List (CK × At)) : Option Nat :=
  match qs with
  | (_, .v i) :: _ => (match h.defs.find? (·.1 == i) with
    | some (_, .get l (.c _)) => if decide (l < h.nl) && h.getsFrom l 0 qs then some l else none
    | _ => none)
  | _ => none
def listOf (qs : List (CK × At)) : M Nat := fun h k =>
  match h.getsOf qs with
  | some l => k l h
  | none => mkL (.lit (qs.map (·.2))) h k
def pickEach (l : Nat) (m : At) : Nat → List CK → M (List SV)
  | _, [] => pure []
  | j, c :: cs => do
    let e ← mkI (.add m (.c j))
    let v ← mkI (.get l e)
    let r ← pickEach l m (j + 1) cs
    pure (c.sv v :: r)
/-- One of the structs of a list of structs of numbers. -/
def pickNums (qs : List (CK × At)) (s : Nat) (a : At) : M SV := do
  need .geq a (.c 0)
  let m ← mkI (.mul a (.c s))
  let e ← mkI (.add m (.c s))
  need .leq e (.c qs.length)
  let l ← listOf qs
  let xs ← pickEach l m 0 ((qs.take s).map (·.1))
  pure (.agg xs)
def evenKinds (qs : List (CK × At)) (s : Nat) : Bool := decide (0 < s ∧ s ≤ qs.length) && (List.range qs.length).all fun j => decide ((qs[j]?).map (·.1) = (qs[j % s]?).map (·.1))
def bytesQ (s : ByteArray) : List (CK × At) := s.data.toList.map fun b => (.i .u8, .c b.toNat)
def indexM (P : Program) (t : TypeId) (x i : SV) : M SV := fun h kk =>
  match x, i with
  | .agg xs, .i _ a => (match P.underlying t with
    | some (.array len elem) => (match sizeT P elem, isAggT P elem with
      | some s, some true => (match (if (h.fixed a).isNone then numsOf xs else none) with
        | some qs => (if evenKinds qs s ∧ len * s = xs.length then pickNums qs s a else M.no 109 : M SV) h kk
        | none => (do
        let j ← splitAt a
        if 0 ≤ j ∧ j < len then pure (.agg ((xs.drop (j.toNat * s)).take s)) else M.no 109 : M SV) h kk)
      | some s, some false => (match h.fixed a with
        | some j => (if 0 ≤ j ∧ j < len then lift (xs[j.toNat * s]?) else M.no 110 : M SV) h kk
        | none => (match numsOf xs with
          | some qs => (if s = 1 ∧ len = xs.length then pickNum qs a else M.no 111 : M SV) h kk
          | none => (do
            let j ← splitAt a
            if 0 ≤ j ∧ j < len then lift (xs[j.toNat * s]?) else M.no 110 : M SV) h kk))
      | _, _ => .fail 111)
    | _ => .fail 112)
  | .raw (.string s), .i _ a => (match P.underlying t with
    | some .string => (match h.fixed a with
      | some j => (if 0 ≤ j then (match s[j.toNat]? with
        | some b => pure (.i .u8 (.c b.toNat))
        | none => M.no 113) else M.no 114 : M SV) h kk
      | none => pickNum (bytesQ s) a h kk)
    | _ => .fail 115)
  | _, _ => .fail 116
def extractM (x : SV) (i : Nat) : M SV :=
  match x with
  | .tup xs => lift (xs[i]?)
  | _ => M.no 117
def mkIfaceM (P : Program) (t : TypeId) (x : SV) : M SV := if P.concrete t then pure (.iface t x) else M.no 118
def allSome : List (Option SV) → Option (List SV)
  | [] => some []
  | some x :: r => (allSome r).map (x :: ·)
  | none :: _ => none

section
variable {Φ : Phi} {C : Ctx} {ρ : Env} {h : H} {w : World} {P : Program}

def DoesV (P : Program) (w : World) (h : H) (s : Sem Value) : SV → Env → H → World → Prop := fun sv ρ' h' w' => w' = w ∧ h'.hp = h.hp ∧ DoesA P s sv ρ'

theorem lift_spec {x : Option SV} {v : Value} (hx : ∀ y, x = some y → SvIs ρ y v) {s : Sem Value} (hs : ∀ W : World, s.run P W = .ok v W) : MSpec Φ C (lift x) ρ h w (DoesV P w h s) := by
  unfold lift
  split
  · exact MSpec.ret ⟨rfl, rfl, v, hx _ rfl, hs⟩
  · exact MSpec.no

theorem unM_spec {op : UnOp} {x : SV} {u : Value} (hx : SvIs ρ x u) : MSpec Φ C (unM op x) ρ h w (DoesV P w h (Op.unary op u)) := by
  unfold unM
  split
  · rename_i a
    obtain ⟨ha, rfl⟩ := hx.bool
    refine (not_spec ha).bind ?_
    rintro c ρ1 h1 w1 l1 ⟨rfl, hp1, hc⟩
    refine MSpec.ret ⟨rfl, hp1, _, hc.svb, fun W => ?_⟩
    simp [Op.unary, bne]
  · rename_i k a
    obtain ⟨ha, rfl⟩ := hx.int
    refine (arith_spec (P := P) (AtIs.c ρ 0) ha (by decide) (by decide) 0).mono ?_
    rintro sv ρ' h' w' l ⟨rfl, hp, z, hz, hr⟩
    exact ⟨rfl, hp, z, hz, fun W => by simpa [binOp, Op.unary] using hr W⟩
  · rename_i k a
    obtain ⟨ha, rfl⟩ := hx.int
    refine (arith_spec (P := P) (AtIs.c ρ (if k.signed then -1 else k.max)) ha (by decide) (by decide) 0).mono ?_
    rintro sv ρ' h' w' l ⟨rfl, hp, z, hz, hr⟩
    exact ⟨rfl, hp, z, hz, fun W => by simpa [binOp, Op.unary] using hr W⟩
  · exact MSpec.no

theorem wr_spec {k : IntKind} {a : At} {x : Int} (ha : AtIs ρ a x) : MSpec Φ C (mkI (.wr k a)) ρ h w fun r ρ' h' w' => w' = w ∧ h'.hp = h.hp ∧ AtIs ρ' r (k.wrap x) := by
  refine (mkI_ok (okB1 ha.1 (.wr k a) rfl rfl)).mono ?_
  rintro r ρ' h' w' l ⟨rfl, hp, hr⟩
  simp only [IOp.den, ha.val] at hr
  exact ⟨rfl, hp, hr⟩
theorem add_spec {a b : At} {x y : Int} (ha : AtIs ρ a x) (hb : AtIs ρ b y) : MSpec Φ C (mkI (.add a b)) ρ h w fun r ρ' h' w' => w' = w ∧ h'.hp = h.hp ∧ AtIs ρ' r (x + y) := by
  refine (mkI_ok (okB2 ha.1 hb.1 (.add a b) rfl rfl)).mono ?_
  rintro r ρ' h' w' l ⟨rfl, hp, hr⟩
  simp only [IOp.den, ha.val, hb.val] at hr
  exact ⟨rfl, hp, hr⟩
theorem mul_spec {a b : At} {x y : Int} (ha : AtIs ρ a x) (hb : AtIs ρ b y) : MSpec Φ C (mkI (.mul a b)) ρ h w fun r ρ' h' w' => w' = w ∧ h'.hp = h.hp ∧ AtIs ρ' r (x * y) := by
  refine (mkI_ok (okB2 ha.1 hb.1 (.mul a b) rfl rfl)).mono ?_
  rintro r ρ' h' w' l ⟨rfl, hp, hr⟩
  simp only [IOp.den, ha.val, hb.val] at hr
  exact ⟨rfl, hp, hr⟩

theorem convM_spec {src dst : TypeId} {x : SV} {u : Value} (hx : SvIs ρ x u) : MSpec Φ C (convM P src dst x) ρ h w (DoesV P w h (convert src dst u)) := by
  unfold convM
  split
  · rename_i k a
    obtain ⟨ha, rfl⟩ := hx.int
    split
    · rename_i d k' e1 e2
      refine (wr_spec ha).bind ?_
      rintro y ρ1 h1 w1 l1 ⟨rfl, hp1, hy⟩
      refine MSpec.ret ⟨rfl, hp1, _, hy.svi, fun W => ?_⟩
      simp only [convert, Sem.run_bind, run_underlying e1, run_underlying e2, Result.andThen_ok]
      rfl
    · exact MSpec.no
  · rename_i s
    obtain rfl := hx.raw
    split
    · rename_i d e1 e2
      refine MSpec.ret ⟨rfl, rfl, _, hx, fun W => ?_⟩
      simp only [convert, Sem.run_bind, run_underlying e1, run_underlying e2, Result.andThen_ok]
      rfl
    · exact MSpec.no
  · exact MSpec.no

theorem pickM_spec {c a b : Option SV} {cv av bv : Value} (hc : ∀ y, c = some y → SvIs ρ y cv) (ha : ∀ y, a = some y → SvIs ρ y av) (hb : ∀ y, b = some y → SvIs ρ y bv) :
    MSpec Φ C (pickM c a b) ρ h w (DoesV P w h (do pure (if ← asBool cv then av else bv))) := by
  unfold pickM
  split
  · rename_i p
    obtain ⟨hp, rfl⟩ := (hc _ rfl).bool
    refine (dec_spec hp).bind ?_
    rintro t ρ1 h1 w1 l1 ⟨rfl, hp1, ht⟩
    have hrun : ∀ W : World, ((do pure (if ← asBool (.bool (At.den ρ.is p != 0)) then av else bv)) : Sem Value).run P W = .ok (if t then av else bv) W := by
      intro W; rw [ht]; cases t <;> simp [asBool]
    cases t
    · refine (lift_spec (P := P) (v := bv) (fun y hy => (hb y hy).mono l1) hrun).mono ?_
      rintro sv ρ' h' w' l ⟨rfl, hp, hd⟩
      exact ⟨rfl, by rw [hp, hp1], hd⟩
    · refine (lift_spec (P := P) (v := av) (fun y hy => (ha y hy).mono l1) hrun).mono ?_
      rintro sv ρ' h' w' l ⟨rfl, hp, hd⟩
      exact ⟨rfl, by rw [hp, hp1], hd⟩
  · exact MSpec.no

theorem boxM_spec {elem : TypeId} {x : SV} {v : Value} (hx : SvIs ρ x v) : MSpec Φ C (boxM elem x) ρ h w (Does P (Instr.box elem v) w) := by
  unfold boxM
  split
  · rename_i xs e
    obtain ⟨hok, hc⟩ := flat_is hx e
    refine (newBlk_spec hok).mono ?_
    rintro sv ρ' h' w' l ⟨hs, rfl⟩
    exact ⟨_, hs, by simp [Instr.box, newVar, newRow, hc]⟩
  · exact MSpec.no
theorem allocM_spec {elem : TypeId} : MSpec Φ C (allocM P elem) ρ h w (Does P (Instr.alloc elem true (.tuple #[])) w) := by
  unfold allocM
  split
  · rename_i z e
    refine (boxM_spec (P := P) (ofConst_is ρ z)).mono ?_
    rintro sv ρ' h' w' l ⟨v, hv, hr⟩
    refine ⟨v, hv, ?_⟩
    simp only [Instr.box] at hr
    simp only [Instr.alloc, Sem.run_bind, run_zeroValue' e, Result.andThen_ok]
    exact hr
  · exact MSpec.no

theorem putAll_is {ρ : Env} : ∀ (xs : List SV) (cells : List SV) (off : Nat), SV.oks ρ.is.length ρ.bs.length cells = true → SV.oks ρ.is.length ρ.bs.length xs = true →
    SV.oks ρ.is.length ρ.bs.length (putAll cells off xs) = true ∧ (putAll cells off xs).length = cells.length ∧
    ∀ k, ((SV.dens ρ xs).zipIdx k).foldl (fun (cs : Array Value) (c : Value × Nat) => cs.setIfInBounds (off + c.2 - k) c.1) (SV.dens ρ cells).toArray = (SV.dens ρ (putAll cells off xs)).toArray
  | [], cells, off, h1, _ => ⟨h1, rfl, fun k => by simp [SV.dens, putAll]⟩
  | x :: xs, cells, off, h1, h2 => by
    simp only [SV.oks, Bool.and_eq_true] at h2
    have ih := putAll_is (ρ := ρ) xs (cells.set off x) (off + 1) (oks_set h1 h2.1) h2.2
    refine ⟨ih.1, by rw [putAll, ih.2.1, List.length_set], fun k => ?_⟩
    have := ih.2.2 (k + 1)
    rw [putAll, ← this]
    simp only [SV.dens, List.zipIdx_cons, List.foldl_cons]
    have e1 : (SV.dens ρ cells).toArray.setIfInBounds (off + k - k) (SV.den ρ x) = (SV.dens ρ (cells.set off x)).toArray := by
      rw [dens_set, Nat.add_sub_cancel]; simp
    rw [e1]
    congr 1
    funext cs c
    congr 1
    omega
theorem putAll_fold {ρ : Env} {xs cells : List SV} {off : Nat} (h1 : SV.oks ρ.is.length ρ.bs.length cells = true) (h2 : SV.oks ρ.is.length ρ.bs.length xs = true) :
    (SV.dens ρ xs).toArray.zipIdx.foldl (fun (cs : Array Value) (c : Value × Nat) => cs.setIfInBounds (off + c.2) c.1) (SV.dens ρ cells).toArray = (SV.dens ρ (putAll cells off xs)).toArray := by
  have := (putAll_is (ρ := ρ) xs cells off h1 h2).2.2 0
  rw [← Array.foldl_toList, Array.toList_zipIdx]
  simpa using this
/-- What the parts read as. -/
def PartsAre (ρ : Env) : List (Nat × Option SV) → List (Nat × Value) → Prop
  | [], [] => True
  | (i, x) :: r, (j, v) :: s => i = j ∧ (∀ y, x = some y → SvIs ρ y v) ∧ PartsAre ρ r s
  | _, _ => False
theorem fillS_is {ρ : Env} {place : Nat → Option (Nat × Nat)} : ∀ (ps : List (Nat × Option SV)) (vs : List (Nat × Value)) (cells out : List SV), PartsAre ρ ps vs → SV.oks ρ.is.length ρ.bs.length cells = true →
    fillS place cells ps = some out → SV.oks ρ.is.length ρ.bs.length out = true ∧ out.length = cells.length ∧ Instr.fill place (SV.dens ρ cells).toArray vs = some (SV.dens ρ out).toArray
  | [], [], cells, out, _, h1, e => by cases e; exact ⟨h1, rfl, rfl⟩
  | [], _ :: _, _, _, hp, _, _ => hp.elim
  | _ :: _, [], _, _, hp, _, _ => by cases hp
  | (i, x) :: ps, (j, v) :: vs, cells, out, hp, h1, e => by
    obtain ⟨rfl, hx, hr⟩ := hp
    unfold fillS at e
    split at e
    · rename_i off size xs ep ef
      cases x with
      | none => cases ef
      | some y =>
        simp only [Option.bind_some] at ef
        obtain ⟨hok, hc⟩ := flat_is (hx y rfl) ef
        split at e
        · rename_i hl
          have hpa := putAll_is (ρ := ρ) xs cells off h1 hok
          have ih := fillS_is ps vs _ out hr hpa.1 e
          refine ⟨ih.1, by rw [ih.2.1, hpa.2.1], ?_⟩
          unfold Instr.fill
          rw [ep]
          simp only
          have hlen : (SV.dens ρ xs).length = xs.length := by rw [SV.dens_eq]; simp
          have hlen2 : (SV.dens ρ cells).length = cells.length := by rw [SV.dens_eq]; simp
          rw [hc]
          rw [if_neg (by simp [hlen, hlen2]; omega), putAll_fold h1 hok]
          exact ih.2.2
        · cases e
    · cases e

theorem zeroCellsT_is {t : TypeId} {zs : List SV} (e : zeroCellsT P t = some zs) (w : World) : ∃ z, zeroT P t = some z ∧ (∀ ρ : Env, SV.oks ρ.is.length ρ.bs.length zs = true) ∧ ∀ ρ : Env, z.cells = (SV.dens ρ zs).toArray := by
  unfold zeroCellsT at e
  cases ez : zeroT P t with
  | none => rw [ez] at e; cases e
  | some z =>
    rw [ez] at e
    simp only [Option.bind_some] at e
    exact ⟨z, rfl, fun ρ => (flat_is (ofConst_is ρ z) e).1, fun ρ => (flat_is (ofConst_is ρ z) e).2⟩
theorem placesT_run {w : World} : ∀ (fs : List Field) (ps : List (Nat × Nat)), placesT P fs = some ps → ((fs.mapM fun f => Prod.mk f.offset <$> sizeOf f.type : Sem (List (Nat × Nat)))).run P w = .ok ps w
  | [], ps, e => by cases e; simp
  | f :: fs, ps, e => by
    unfold placesT at e
    split at e
    · rename_i s r es er
      cases e
      simp [List.mapM_cons, run_sizeOf' es, placesT_run fs r er]
    · cases e
theorem placesT_runA {w : World} (fs : Array Field) (ps : List (Nat × Nat)) (e : placesT P fs.toList = some ps) : ((fs.mapM fun f => do pure (f.offset, ← sizeOf f.type) : Sem (Array (Nat × Nat)))).run P w = .ok ps.toArray w := by
  rw [Array.mapM_eq_mapM_toList]
  simp [placesT_run (w := w) fs.toList ps e]

theorem buildM_spec {t : TypeId} {ps : List (Nat × Option SV)} {vs : Array (Nat × Value)} (hp : PartsAre ρ ps vs.toList) :
    MSpec Φ C (buildM P t ps) ρ h w (DoesV P w h (Instr.build t vs)) := by
  unfold buildM
  split
  · rename_i zs fs e1 e2
    obtain ⟨z, ez, hzo, hzc⟩ := zeroCellsT_is e1 w
    split
    · rename_i pl ep
      split
      · rename_i cs ef
        have hf := fillS_is ps vs.toList zs cs hp (hzo ρ) ef
        refine MSpec.ret ⟨rfl, rfl, .agg (SV.dens ρ cs).toArray, ⟨by rw [SV.ok]; exact hf.1, by rw [SV.den]⟩, fun W => ?_⟩
        have hfill : Instr.fill (fun x => pl.toArray[x]?) z.cells vs.toList = some (SV.dens ρ cs).toArray := by
          rw [hzc ρ]; simpa using hf.2.2
        simp only [Instr.build, Sem.run_bind, run_zeroValue' ez, Result.andThen_ok, run_underlying e2, placesT_runA fs pl ep]
        rw [hfill]; rfl
      · exact MSpec.no
    · exact MSpec.no
  · rename_i zs n elem e1 e2
    obtain ⟨z, ez, hzo, hzc⟩ := zeroCellsT_is e1 w
    split
    · rename_i s es
      split
      · rename_i cs ef
        have hf := fillS_is ps vs.toList zs cs hp (hzo ρ) ef
        refine MSpec.ret ⟨rfl, rfl, .agg (SV.dens ρ cs).toArray, ⟨by rw [SV.ok]; exact hf.1, by rw [SV.den]⟩, fun W => ?_⟩
        have hfill : Instr.fill (fun i => some (i * s, s)) z.cells vs.toList = some (SV.dens ρ cs).toArray := by
          rw [hzc ρ]; exact hf.2.2
        simp only [Instr.build, Sem.run_bind, run_zeroValue' ez, Result.andThen_ok, run_underlying e2, run_sizeOf' es]
        rw [hfill]; rfl
      · exact MSpec.no
    · exact MSpec.no
  · exact MSpec.no
end
end Go.Sx
/- The operations that are no calls (3). -/
set_option linter.unusedVariables false
namespace Go.Sx

theorem repeatZ_get {s : Nat} {zs : List SV} (hs : zs.length = s) (h0 : 0 < s) : ∀ (n i : Nat), i < n * s → (repeatZ zs n)[i]? = zs[i % s]?
  | 0, i, h => by omega
  | n + 1, i, h => by
    rw [repeatZ]
    by_cases hi : i < s
    · rw [List.getElem?_append_left (by omega), Nat.mod_eq_of_lt hi]
    · rw [List.getElem?_append_right (by omega), hs, repeatZ_get hs h0 n (i - s) (by rw [Nat.succ_mul] at h; omega)]
      congr 1
      rw [← Nat.mod_eq_sub_mod (by omega)]
theorem repeatZ_len {zs : List SV} : ∀ n, (repeatZ zs n).length = n * zs.length
  | 0 => by simp [repeatZ]
  | n + 1 => by rw [repeatZ, List.length_append, repeatZ_len n, Nat.succ_mul, Nat.add_comm]
theorem repeatZ_ok {ni nb : Nat} {zs : List SV} (h : SV.oks ni nb zs = true) : ∀ n, SV.oks ni nb (repeatZ zs n) = true
  | 0 => rfl
  | n + 1 => by
    have app : ∀ xs ys : List SV, SV.oks ni nb xs = true → SV.oks ni nb ys = true → SV.oks ni nb (xs ++ ys) = true := by
      intro xs ys h1 h2
      induction xs with
      | nil => simpa using h2
      | cons x xs ih =>
        simp only [SV.oks, List.cons_append, Bool.and_eq_true] at *
        exact ⟨h1.1, ih h1.2⟩
    exact app _ _ h (repeatZ_ok h n)
theorem repeatZ_dens {ρ : Env} {s n : Nat} {zs : List SV} (hs : zs.length = s) (h0 : 0 < s) :
    (Array.range (n * s)).map (fun i => (SV.dens ρ zs).toArray[i % (SV.dens ρ zs).toArray.size]!) = (SV.dens ρ (repeatZ zs n)).toArray := by
  have hl : (SV.dens ρ zs).length = s := by rw [SV.dens_eq]; simpa using hs
  apply Array.ext'
  apply List.ext_getElem?
  intro i
  by_cases hi : i < n * s
  · have hr := repeatZ_get hs h0 n i hi
    have hm : i % s < zs.length := by rw [hs]; exact Nat.mod_lt _ h0
    rw [SV.dens_eq, SV.dens_eq]
    simp [hi, hr, hs, List.getElem?_eq_getElem hm]
  · rw [SV.dens_eq, SV.dens_eq]
    rw [List.getElem?_eq_none (by simpa using hi), List.getElem?_eq_none (by simp [repeatZ_len, hs]; omega)]

section
variable {Φ : Phi} {C : Ctx} {ρ : Env} {h : H} {w : World} {P : Program}

theorem buildSliceM_spec {t : TypeId} {len : Nat} {ps : List (Nat × Option SV)} {vs : Array (Nat × Value)} (hp : PartsAre ρ ps vs.toList) :
    MSpec Φ C (buildSliceM P t len ps) ρ h w (Does P (Instr.buildSlice t len vs) w) := by
  unfold buildSliceM
  split
  · rename_i elem eu
    split
    · rename_i s zs es ez
      obtain ⟨z, ez', hzo, hzc⟩ := zeroCellsT_is ez w
      split
      · rename_i hc
        have hs0 : 0 < s := hc.2.2
        split
        · rename_i cs ef
          have hf := fillS_is ps vs.toList _ cs hp (repeatZ_ok (hzo ρ) len) ef
          refine (newBlk_spec hf.1).bind ?_
          rintro p ρ1 h1 w1 l1 ⟨hp1, rfl⟩
          split
          · rename_i n o
            obtain ⟨hn, ho, ha⟩ := hp1.ptr
            refine MSpec.ret ⟨.slice (some ⟨w.heap.size, 0, none⟩) len len, ⟨by simp only [SV.ok, hn, ho.1, decide_true]; rfl, ?_⟩, ?_⟩
            · have : ρ1.at n o = ⟨w.heap.size, 0, none⟩ := by simpa using ha.symm
              simp [SV.den, this]
            · have hfill : Instr.fill (fun i => some (i * s, s)) ((Array.range (len * s)).map (fun i => z.cells[i % z.cells.size]!)) vs.toList = some (SV.dens ρ cs).toArray := by
                rw [hzc ρ, repeatZ_dens hc.1 hs0]; exact hf.2.2
              have hbig : ¬ len * s > 2 ^ 24 := by omega
              by_cases hz0 : len * s = 0
              · have hl0 : len = 0 := by rcases Nat.mul_eq_zero.1 hz0 with h | h; · exact h
                                         · omega
                subst hl0
                have hfill' : Instr.fill (fun i => some (i * s, s)) ((Array.range (0 * s)).map (fun i => (#[] : Array Value)[i % (#[] : Array Value).size]!)) vs.toList = some (SV.dens ρ cs).toArray := by
                  have e0 : ∀ f : Nat → Value, (Array.range 0).map f = #[] := fun f => by simp
                  rw [← hfill, Nat.zero_mul, e0, e0]
                simp only [Instr.buildSlice, Sem.run_bind, run_underlying eu, Result.andThen_ok, run_sizeOf' es, Sem.run_ite, if_pos hz0, if_neg hbig, Sem.run_pure]
                simp only [hfill']
                simp [newRow]
              · simp only [Instr.buildSlice, Sem.run_bind, run_underlying eu, Result.andThen_ok, run_sizeOf' es, Sem.run_ite, if_neg hz0, if_neg hbig, run_zeroValue' ez', Sem.run_pure]
                simp only [hfill]
                simp [newRow]
          · exact MSpec.no
        · exact MSpec.no
      · exact MSpec.no
    · exact MSpec.no
  · exact MSpec.no

theorem nilChk_spec {x : SV} {u : Value} (hx : SvIs ρ x u) {ρ' : Operand → Value} {o : Oper} {y : Operand} (ho : o.op = .nilCheck y) (hu : ρ' y = u) :
    MSpec Φ C (nilChk x) ρ h w fun sv ρ1 h1 w1 => w1 = w ∧ h1.hp = h.hp ∧ ∃ v, SvIs ρ1 sv v ∧ ∀ W : World, (execOp ρ' o).run P W = .ok (.value v) W := by
  unfold nilChk
  split
  · have e := hx.ptr.2.2
    refine MSpec.ret ⟨rfl, rfl, u, hx, fun W => ?_⟩
    simp only [execOp, ho, hu, e]; rfl
  · have e := hx.raw
    refine MSpec.ret ⟨rfl, rfl, u, hx, fun W => ?_⟩
    simp only [execOp, ho, hu, e]; rfl
  · have e := hx.iface.2
    refine MSpec.ret ⟨rfl, rfl, u, hx, fun W => ?_⟩
    simp only [execOp, ho, hu, e]; rfl
  · rename_i f cs
    have e : u = .func (.func f) #[] (SV.dens ρ cs).toArray := by rw [← hx.2, SV.den]
    refine MSpec.ret ⟨rfl, rfl, u, hx, fun W => ?_⟩
    simp only [execOp, ho, hu, e]; rfl
  · exact MSpec.no

theorem fieldM_spec {t : TypeId} {x : SV} {u : Value} {i : Nat} (hx : SvIs ρ x u) : MSpec Φ C (fieldM P t x i) ρ h w (DoesV P w h (Instr.field t u i)) := by
  unfold fieldM
  split
  · rename_i xs fs eu
    obtain ⟨hxs, rfl⟩ := hx.agg
    split
    · rename_i f ef
      split
      · rename_i s ea es
        refine MSpec.ret ⟨rfl, rfl, .agg ((SV.dens ρ xs).drop f.offset |>.take s).toArray, ⟨by rw [SV.ok]; exact oks_part _ _ hxs, by rw [SV.den, dens_part]⟩, fun W => ?_⟩
        simp only [Instr.field, Sem.run_bind, run_underlying eu, Result.andThen_ok, ef, asAgg, Sem.run_pure, run_part_agg ea es]
      · rename_i y ea ey
        have := oks_get hxs ey
        refine MSpec.ret ⟨rfl, rfl, _, this.1, fun W => ?_⟩
        simp only [Instr.field, Sem.run_bind, run_underlying eu, Result.andThen_ok, ef, asAgg, Sem.run_pure, run_part_one ea this.2]
      · exact MSpec.no
    · exact MSpec.no
  · exact MSpec.no

theorem fieldAddrM_spec {t : TypeId} {x : SV} {u : Value} {i : Nat} (hx : SvIs ρ x u) : MSpec Φ C (fieldAddrM P t x i) ρ h w (DoesV P w h (Instr.fieldAt t u i)) := by
  unfold fieldAddrM
  split
  · rename_i n o fs eu
    obtain ⟨hn, ho, rfl⟩ := hx.ptr
    split
    · rename_i f ef
      split
      · rename_i s es
        refine (need_spec ho (AtIs.c ρ 0)).bind ?_
        rintro _ ρ1 h1 w1 l1 ⟨rfl, hp1, c1⟩
        simp only [cmpB, decide_eq_true_eq] at c1
        refine (add_spec (ho.mono l1) (AtIs.c ρ1 f.offset)).bind ?_
        rintro o' ρ2 h2 w2 l2 ⟨rfl, hp2, ho'⟩
        have l12 := Env.le_trans l1 l2
        refine MSpec.ret ⟨rfl, by rw [hp2, hp1], .pointer (some ((ρ.at n o).add f.offset)), ⟨?_, ?_⟩, fun W => ?_⟩
        · have := (Env.le_len l12).2.2
          simp [SV.ok, ho'.1]; omega
        · have := at_add (n := n) ((ho.mono l1).mono l2) ho' c1
          rw [at_mono l12 hn ho] at this
          simp [SV.den, this]
        · simp [Instr.fieldAt, run_underlying eu, ef, Instr.sureAddr, fieldPlace, run_sizeOf' es]
      · exact MSpec.no
    · exact MSpec.no
  · exact MSpec.no

theorem at_addI {n : Nat} {o oi : At} {z m : Int} (ho : AtIs ρ o z) (hi : AtIs ρ oi (z + m)) (hz : 0 ≤ z) (hm : 0 ≤ m) : ρ.at n oi = (ρ.at n o).add m.toNat :=
  at_add ho (by rwa [Int.toNat_of_nonneg hm]) hz

theorem vecFact_ok (f : Facts C ρ h w) {n : Nat} {len cap : At} (e : vecFact h n len cap = true) (h0 : cap.den ρ.is = 0) : len.den ρ.is = 0 := by
  unfold vecFact at e
  split at e
  · rename_i ks l bl sz el eb
    simp only [Bool.and_eq_true, decide_eq_true_eq] at e
    obtain ⟨rfl, rfl⟩ := e
    have hh := (f.heap _ (blk_mem eb)).holds
    simp only [Blk.holds] at hh
    have := hh.2.1 h0
    rw [this] at hh
    simpa using hh.1.symm
  · cases e
theorem vecHas_spec {n : Nat} {len cap : At} {zl zc : Int} (hl : AtIs ρ len zl) (hc : AtIs ρ cap zc) : MSpec Φ C (vecHas n len cap) ρ h w fun _ ρ' h' w' => w' = w ∧ h'.hp = h.hp ∧ (zc = 0 → zl = 0) := by
  refine MSpec.rep fun r0 => ?_
  intro r k hk
  unfold vecHas at hk
  split at hk
  · rename_i e
    refine ⟨(), ρ, h, w, Env.le_refl ρ, r, hk, rfl, rfl, fun hz => ?_⟩
    rw [← hl.val]; exact vecFact_ok r0.fact e (by rw [hc.val]; exact hz)
  · obtain ⟨a, ρ1, h1, w1, l1, r1, d1, e1, hp1, hq⟩ := need_spec hc (AtIs.c ρ 0) r k hk
    simp only [cmpB, bne_iff_ne] at hq
    exact ⟨a, ρ1, h1, w1, l1, r1, d1, e1, hp1, fun hz => absurd hz hq⟩

theorem toNat_mul_nat {j : Int} (s : Nat) (c2 : 0 ≤ j) : (j * (s : Int)).toNat = j.toNat * s := by
  obtain ⟨k, rfl⟩ := Int.eq_ofNat_of_zero_le c2
  simp only [Int.toNat_natCast]
  exact_mod_cast Int.toNat_natCast (k * s)
theorem indexAddr_core {n : Nat} {o a len : At} {s : Nat} {z j l : Int} (hn : n < ρ.bs.length) (ho : AtIs ρ o z) (ha : AtIs ρ a j) (hl : AtIs ρ len l) :
    MSpec Φ C (do
        let a ← idxAt n a
        need .geq o (.c 0)
        need .geq a (.c 0)
        need .lss a len
        let m ← mkI (.mul a (.c s))
        let o' ← mkI (.add o m)
        pure (.ptr n o') : M SV) ρ h w fun sv ρ' h' w' => w' = w ∧ h'.hp = h.hp ∧ SvIs ρ' sv (.pointer (some ((ρ.at n o).add (j.toNat * s)))) ∧ 0 ≤ j ∧ j < l := by
  refine (idxAt_spec ha).bind ?_
  rintro b ρ0 h0 w0 l0 ⟨rfl, hp0, ha0⟩
  refine (need_spec (ho.mono l0) (AtIs.c ρ0 0)).bind ?_
  rintro _ ρ1 h1 w1 l1 ⟨rfl, hp1, c1⟩
  have l01 := Env.le_trans l0 l1
  refine (need_spec (ha0.mono l1) (AtIs.c ρ1 0)).bind ?_
  rintro _ ρ2 h2 w2 l2 ⟨rfl, hp2, c2⟩
  have l12 := Env.le_trans l01 l2
  refine (need_spec (ha0.mono (Env.le_trans l1 l2)) (hl.mono l12)).bind ?_
  rintro _ ρ3 h3 w3 l3 ⟨rfl, hp3, c3⟩
  simp only [cmpB, decide_eq_true_eq] at c1 c2 c3
  have l13 := Env.le_trans l12 l3
  refine (mul_spec (ha0.mono (Env.le_trans l1 (Env.le_trans l2 l3))) (AtIs.c ρ3 s)).bind ?_
  rintro m ρ4 h4 w4 l4 ⟨rfl, hp4, hm⟩
  have l14 := Env.le_trans l13 l4
  refine (add_spec (ho.mono l14) hm).bind ?_
  rintro o' ρ5 h5 w5 l5 ⟨rfl, hp5, ho'⟩
  have l15 := Env.le_trans l14 l5
  have hm0 : 0 ≤ j * (s : Int) := Int.mul_nonneg c2 (by omega)
  have := at_addI (n := n) (ho.mono l15) ho' c1 hm0
  rw [at_mono l15 hn ho] at this
  refine MSpec.ret ⟨rfl, by rw [hp5, hp4, hp3, hp2, hp1, hp0], ⟨?_, ?_⟩, c2, c3⟩
  · have := (Env.le_len l15).2.2
    simp [SV.ok, ho'.1]; omega
  · rw [toNat_mul_nat s c2] at this
    simp [SV.den, this]

theorem indexAddrM_spec {t : TypeId} {x i : SV} {u v : Value} (hx : SvIs ρ x u) (hi : SvIs ρ i v) : MSpec Φ C (indexAddrM P t x i) ρ h w (DoesV P w h (Instr.indexAt t u v)) := by
  unfold indexAddrM
  split
  · rename_i n o k a
    obtain ⟨hn, ho, rfl⟩ := hx.ptr
    obtain ⟨ha, rfl⟩ := hi.int
    split
    · rename_i len elem eu
      split
      · rename_i s es
        refine (indexAddr_core hn ho ha (AtIs.c ρ len)).mono ?_
        rintro sv ρ' h' w' l ⟨rfl, hp, hs, c2, c3⟩
        refine ⟨rfl, hp, _, hs, fun W => ?_⟩
        simp [Instr.indexAt, asIntOf, run_underlying eu, Instr.sureAddr, c2, c3, run_sizeOf' es]
      · exact MSpec.no
    · exact MSpec.no
  · rename_i n o len cap k a
    obtain ⟨hn, ho, hl, hcp, rfl⟩ := hx.slc
    obtain ⟨ha, rfl⟩ := hi.int
    split
    · rename_i elem eu
      split
      · rename_i s es
        refine (indexAddr_core hn ho ha hl).mono ?_
        rintro sv ρ' h' w' l ⟨rfl, hp, hs, c2, c3⟩
        refine ⟨rfl, hp, _, hs, fun W => ?_⟩
        have c3' : At.den ρ.is a < ((At.den ρ.is len).toNat : Int) := by omega
        simp [Instr.indexAt, asIntOf, run_underlying eu, c2, run_sizeOf' es]
        omega
      · exact MSpec.no
    · exact MSpec.no
  · rename_i n len cap k a
    obtain ⟨hn, hl, hcp, rfl⟩ := hx.vec
    obtain ⟨ha, rfl⟩ := hi.int
    split
    · rename_i elem eu
      split
      · rename_i s es
        generalize hj : At.den ρ.is a = j at ha ⊢
        refine (idxAt_spec ha).bind ?_
        rintro b ρ0 h0 w0 l0 ⟨rfl, hp0, ha0⟩
        refine (vecHas_spec (n := n) (hl.mono l0) (hcp.mono l0)).bind ?_
        rintro _ ρ1 h1 w1 l1 ⟨rfl, hp1, c1⟩
        refine (need_spec (ha0.mono l1) (AtIs.c ρ1 0)).bind ?_
        rintro _ ρ2 h2 w2 l2 ⟨rfl, hp2, c2⟩
        have l02 := Env.le_trans l0 (Env.le_trans l1 l2)
        refine (need_spec (ha0.mono (Env.le_trans l1 l2)) (hl.mono l02)).bind ?_
        rintro _ ρ3 h3 w3 l3 ⟨rfl, hp3, c3⟩
        simp only [cmpB, decide_eq_true_eq] at c2 c3
        refine (mul_spec (ha0.mono (Env.le_trans l1 (Env.le_trans l2 l3))) (AtIs.c ρ3 s)).bind ?_
        rintro m ρ4 h4 w4 l4 ⟨rfl, hp4, hm⟩
        have l04 := Env.le_trans l02 (Env.le_trans l3 l4)
        have hcz : ¬ At.den ρ.is cap = 0 := fun hz => by have := c1 hz; omega
        refine MSpec.ret ⟨rfl, by rw [hp4, hp3, hp2, hp1, hp0], .pointer (some ((⟨(ρ.b n).1, (ρ.b n).2, none⟩ : Addr).add (j.toNat * s))), ⟨?_, ?_⟩, fun W => ?_⟩
        · have := (Env.le_len l04).2.2
          simp only [SV.ok, Bool.and_eq_true, decide_eq_true_eq]
          exact ⟨by omega, hm.1⟩
        · have hb : ρ4.b n = ρ.b n := by obtain ⟨τ, rfl⟩ := l04; exact Env.b_app hn
          simp only [SV.den, Env.at, hb, hm.2, toNat_mul_nat s c2, Addr.add]
          by_cases hz : j.toNat * s = 0 <;> simp [hz]
        · have c3' : j < ((At.den ρ.is len).toNat : Int) := by omega
          simp [Instr.indexAt, asIntOf, run_underlying eu, c2, run_sizeOf' es, hcz]
          omega
      · exact MSpec.no
    · exact MSpec.no
  · exact MSpec.no

theorem oneKind_all {qs : List (CK × At)} {k : CK} (e : oneKindOf qs = some k) : ∀ q ∈ qs, q.1 = k := by
  unfold oneKindOf at e
  split at e
  · cases e
  · rename_i q r
    split at e
    · rename_i hr
      cases e
      intro p hp
      rcases List.mem_cons.1 hp with rfl | hp
      · rfl
      · exact of_decide_eq_true (List.all_eq_true.1 hr p hp)
    · cases e
theorem pickNum_spec {qs : List (CK × At)} {a : At} {x : Int} (hq : ∀ q ∈ qs, q.2.lt ρ.is.length = true) (ha : AtIs ρ a x) :
    MSpec Φ C (pickNum qs a) ρ h w fun sv ρ' h' w' => w' = w ∧ h'.hp = h.hp ∧ 0 ≤ x ∧ x < qs.length ∧ ∃ v, SvIs ρ' sv v ∧ (qs.map fun q => q.1.val (q.2.den ρ.is))[x.toNat]? = some v := by
  unfold pickNum
  split
  · rename_i k ek
    have hk := oneKind_all ek
    refine (need_spec ha (AtIs.c ρ 0)).bind ?_
    rintro _ ρ1 h1 w1 l1 ⟨rfl, hp1, c1⟩
    refine (need_spec (ha.mono l1) (AtIs.c ρ1 qs.length)).bind ?_
    rintro _ ρ2 h2 w2 l2 ⟨rfl, hp2, c2⟩
    simp only [cmpB, decide_eq_true_eq] at c1 c2
    have l12 := Env.le_trans l1 l2
    refine (mkL_ok (o := .lit (qs.map (·.2))) (by
      simp only [LOp.okB]
      refine List.all_eq_true.2 fun b hb => ?_
      obtain ⟨q, hqm, rfl⟩ := List.mem_map.1 hb
      exact At.lt_mono (hq q hqm) (Env.le_len l12).1)).bind ?_
    rintro l ρ3 h3 w3 l3 ⟨rfl, hp3, hL⟩
    have l13 := Env.le_trans l12 l3
    refine (mkI_ok (o := .get l a) (by
      simp only [IOp.okB, IOp.atoms, List.all_cons, List.all_nil, Bool.and_true, Bool.and_eq_true, decide_eq_true_eq]
      exact ⟨(ha.mono l13).1, hL.1⟩)).bind ?_
    rintro v ρ4 h4 w4 l4 ⟨rfl, hp4, hv⟩
    have hlt : x.toNat < qs.length := by omega
    have hden : (LOp.lit (qs.map (·.2))).den ρ2.is ρ2.ls = qs.map fun q => q.2.den ρ.is := by
      simp only [LOp.den, List.map_map]
      refine List.map_congr_left fun q hqm => ?_
      obtain ⟨τ, rfl⟩ := l12
      exact At.den_app (hq q hqm)
    simp only [IOp.den, (ha.mono l13).val, hL.2, hden] at hv
    refine MSpec.ret ⟨rfl, by rw [hp4, hp3, hp2, hp1], c1, c2, k.val ((qs[x.toNat]).2.den ρ.is), CK.sv_is ?_, ?_⟩
    · simpa [List.getD, List.getElem?_eq_getElem hlt] using hv
    · simp [List.getElem?_eq_getElem hlt, hk _ (List.getElem_mem hlt)]
  · exact MSpec.no

theorem getsFrom_ok (f : Facts C ρ h w) {l : Nat} : ∀ (qs : List (CK × At)) (j : Nat), h.getsFrom l j qs = true → ∀ i q, qs[i]? = some q → q.2.den ρ.is = (ρ.ls.getD l []).getD (j + i) 0
  | [], j, _, i, q, hq => by simp at hq
  | p :: r, j, hh, i, q, hq => by
    unfold H.getsFrom at hh
    simp only [Bool.and_eq_true] at hh
    cases i with
    | zero =>
      simp only [List.getElem?_cons_zero, Option.some.injEq] at hq
      subst hq
      have h1 := hh.1
      split at h1
      · rename_i v ev
        split at h1
        · rename_i a l' c ed
          simp only [decide_eq_true_eq] at h1
          have hd := f.defs _ (List.mem_of_find?_eq_some ed)
          have hk : a = v := by have := List.find?_some ed; simpa using this
          simp only [IOp.den, At.den_c, h1.1, h1.2, hk] at hd
          rw [ev, At.den_v, hd]
          simp
        · cases h1
      · cases h1
    | succ i =>
      simp only [List.getElem?_cons_succ] at hq
      have := getsFrom_ok f r (j + 1) hh.2 i q hq
      rw [this]
      congr 1
      omega
theorem listOf_spec {qs : List (CK × At)} (hq : ∀ q ∈ qs, q.2.lt ρ.is.length = true) :
    MSpec Φ C (listOf qs) ρ h w fun l ρ' h' w' => w' = w ∧ h'.hp = h.hp ∧ l < ρ'.ls.length ∧ ∀ i q, qs[i]? = some q → q.2.den ρ.is = (ρ'.ls.getD l []).getD i 0 := by
  intro r k hk
  unfold listOf at hk
  split at hk
  · rename_i l el
    unfold H.getsOf at el
    split at el
    · split at el
      · split at el
        · rename_i hc
          cases el
          simp only [Bool.and_eq_true, decide_eq_true_eq] at hc
          refine ⟨_, ρ, h, w, Env.le_refl ρ, r, hk, rfl, rfl, by rw [r.nl]; exact hc.1, fun i q hi => ?_⟩
          have := getsFrom_ok r.fact _ 0 hc.2 i q hi
          rwa [Nat.zero_add] at this
        · cases el
      · cases el
    · cases el
  · obtain ⟨l, ρ1, h1, w1, l1, r1, d1, e1, hp1, hL⟩ := mkL_ok (Φ := Φ) (C := C) (w := w) (o := .lit (qs.map (·.2))) (by
      simp only [LOp.okB]
      refine List.all_eq_true.2 fun b hb => ?_
      obtain ⟨q, hqm, rfl⟩ := List.mem_map.1 hb
      exact hq q hqm) r _ hk
    refine ⟨l, ρ1, h1, w1, l1, r1, d1, e1, hp1, hL.1, fun i q hi => ?_⟩
    rw [hL.2]
    simp [LOp.den, List.getD, hi]
theorem pickEach_spec {l : Nat} : ∀ (cs : List CK) (j : Nat) {ρ : Env} {h : H} {w : World} {m : At} {z : Int}, l < ρ.ls.length → AtIs ρ m z →
    MSpec Φ C (pickEach l m j cs) ρ h w fun xs ρ' h' w' => w' = w ∧ h'.hp = h.hp ∧ SV.oks ρ'.is.length ρ'.bs.length xs = true ∧ SV.dens ρ' xs = cs.mapIdx fun i c => c.val ((ρ.ls.getD l []).getD (z + ((j + i : Nat) : Int)).toNat 0)
  | [], j, ρ, h, w, m, z, hl, hm => by unfold pickEach; exact MSpec.ret ⟨rfl, rfl, rfl, rfl⟩
  | c :: cs, j, ρ, h, w, m, z, hl, hm => by
    unfold pickEach
    refine (mkI_ok (o := .add m (.c j)) (okB2 hm.1 rfl _ rfl rfl)).bind ?_
    rintro e ρ1 h1 w1 l1 ⟨rfl, hp1, he⟩
    have hl1 : l < ρ1.ls.length := Nat.lt_of_lt_of_le hl (Env.le_len l1).2.1
    have hll1 : ρ1.ls.getD l [] = ρ.ls.getD l [] := by obtain ⟨τ, rfl⟩ := l1; exact getD_app hl
    refine (mkI_ok (o := .get l e) (by
      simp only [IOp.okB, IOp.atoms, List.all_cons, List.all_nil, Bool.and_true, Bool.and_eq_true, decide_eq_true_eq]
      exact ⟨he.1, hl1⟩)).bind ?_
    rintro v ρ2 h2 w2 l2 ⟨rfl, hp2, hv⟩
    have hl2 : l < ρ2.ls.length := Nat.lt_of_lt_of_le hl1 (Env.le_len l2).2.1
    have hll2 : ρ2.ls.getD l [] = ρ.ls.getD l [] := by rw [← hll1]; obtain ⟨τ, rfl⟩ := l2; exact getD_app hl1
    have l12 := Env.le_trans l1 l2
    refine (pickEach_spec cs (j + 1) hl2 (hm.mono l12)).bind ?_
    rintro xs ρ3 h3 w3 l3 ⟨rfl, hp3, ho3, hd3⟩
    have hsv : SvIs ρ3 (c.sv v) (c.val ((ρ.ls.getD l []).getD (z + ((j : Nat) : Int)).toNat 0)) := by
      have := CK.sv_is (k := c) (hv.mono l3)
      simpa only [IOp.den, he.val, hm.val, At.den_c, hll1] using this
    refine MSpec.ret ⟨rfl, by rw [hp3, hp2, hp1], ?_, ?_⟩
    · simp only [SV.oks, Bool.and_eq_true]; exact ⟨hsv.1, ho3⟩
    · simp only [SV.dens, hsv.2, hd3, hll2, List.mapIdx_cons, Nat.add_zero]
      congr 2
      funext i c
      rw [show j + 1 + i = j + (i + 1) by omega]
theorem pickNums_spec {qs : List (CK × At)} {s : Nat} {a : At} {x : Int} (hq : ∀ q ∈ qs, q.2.lt ρ.is.length = true) (hev : evenKinds qs s = true) (ha : AtIs ρ a x) :
    MSpec Φ C (pickNums qs s a) ρ h w fun sv ρ' h' w' => w' = w ∧ h'.hp = h.hp ∧ 0 ≤ x ∧ x.toNat * s + s ≤ qs.length ∧
      SvIs ρ' sv (.agg ((((qs.map fun q => q.1.val (q.2.den ρ.is)).drop (x.toNat * s)).take s)).toArray) := by
  unfold pickNums
  refine (need_spec ha (AtIs.c ρ 0)).bind ?_
  rintro _ ρ1 h1 w1 l1 ⟨rfl, hp1, c1⟩
  refine (mkI_ok (o := .mul a (.c s)) (okB2 (ha.mono l1).1 rfl _ rfl rfl)).bind ?_
  rintro m ρ2 h2 w2 l2 ⟨rfl, hp2, hm⟩
  refine (mkI_ok (o := .add m (.c s)) (okB2 hm.1 rfl _ rfl rfl)).bind ?_
  rintro e ρ3 h3 w3 l3 ⟨rfl, hp3, he⟩
  refine (need_spec he (AtIs.c ρ3 qs.length)).bind ?_
  rintro _ ρ4 h4 w4 l4 ⟨rfl, hp4, c2⟩
  have l14 := Env.le_trans l1 (Env.le_trans l2 (Env.le_trans l3 l4))
  have hq4 : ∀ q ∈ qs, q.2.lt ρ4.is.length = true := fun q hqm => At.lt_mono (hq q hqm) (Env.le_len l14).1
  refine (listOf_spec hq4).bind ?_
  rintro l ρ5 h5 w5 l5 ⟨rfl, hp5, hl, hget⟩
  have hm5 := hm.mono (Env.le_trans l3 (Env.le_trans l4 l5))
  refine (pickEach_spec _ 0 hl hm5).bind ?_
  rintro xs ρ6 h6 w6 l6 ⟨rfl, hp6, ho, hd⟩
  simp only [cmpB, decide_eq_true_eq] at c1 c2
  have hmv : (IOp.mul a (.c s)).den ρ1.is ρ1.ls = x * s := by simp only [IOp.den, (ha.mono l1).val, At.den_c]
  have hev' : (IOp.add m (.c s)).den ρ2.is ρ2.ls = x * s + s := by simp only [IOp.den, hm.val, At.den_c, (ha.mono l1).val]
  rw [hev'] at c2
  have hx0 : 0 ≤ x := c1
  obtain ⟨n, rfl⟩ : ∃ n : Nat, x = n := ⟨x.toNat, by omega⟩
  have hn : n * s + s ≤ qs.length := by
    have : ((n * s + s : Nat) : Int) ≤ (qs.length : Int) := by push_cast; exact c2
    omega
  refine MSpec.ret ⟨rfl, by rw [hp6, hp5, hp4, hp3, hp2, hp1], hx0, by simpa using hn, ?_, ?_⟩
  · simpa only [SV.ok] using ho
  · simp only [SV.den, hd, Int.toNat_natCast]
    congr 1
    congr 1
    apply List.ext_getElem?
    intro i
    simp only [evenKinds, Bool.and_eq_true, decide_eq_true_eq, List.all_eq_true, List.mem_range] at hev
    by_cases hi : i < s
    · have hlt : n * s + i < qs.length := by omega
      have hk := hev.2 _ hlt
      have hmod : (n * s + i) % s = i := by rw [Nat.mul_comm, Nat.mul_add_mod]; exact Nat.mod_eq_of_lt hi
      rw [hmod, List.getElem?_eq_getElem hlt, List.getElem?_eq_getElem (show i < qs.length by omega)] at hk
      simp only [Option.map_some, Option.some.injEq] at hk
      rw [List.getElem?_take, if_pos hi, List.getElem?_drop, List.getElem?_map, List.getElem?_eq_getElem hlt]
      rw [List.getElem?_mapIdx, List.getElem?_map, List.getElem?_take, if_pos hi, List.getElem?_eq_getElem (show i < qs.length by omega)]
      simp only [Option.map_some, hmv]
      have hg := hget (n * s + i) _ (List.getElem?_eq_getElem hlt)
      have e0 : (((n : Int) * (s : Int)) + ((0 + i : Nat) : Int)).toNat = n * s + i := by
        have : ((n : Int) * (s : Int)) = ((n * s : Nat) : Int) := by push_cast; rfl
        rw [this]; omega
      rw [e0, ← hg, ← hk]
      have : At.den ρ4.is (qs[n * s + i]).2 = At.den ρ.is (qs[n * s + i]).2 := by
        obtain ⟨τ, rfl⟩ := l14
        exact At.den_app (hq _ (List.getElem_mem hlt))
      rw [this]
    · rw [List.getElem?_take, if_neg hi, List.getElem?_mapIdx, List.getElem?_map, List.getElem?_take, if_neg hi]
      rfl
theorem toList_get (s : ByteArray) (j : Nat) : s.data.toList[j]? = s[j]? := by
  cases s with
  | mk d =>
    rw [Array.getElem?_toList]
    by_cases h : j < d.size
    · rw [Array.getElem?_eq_getElem h]
      exact (getElem?_pos (ByteArray.mk d) j h).symm
    · rw [Array.getElem?_eq_none (Nat.le_of_not_lt h)]
      exact (getElem?_neg (ByteArray.mk d) j h).symm
theorem bytesQ_is (s : ByteArray) (is : List Int) : (bytesQ s).map (fun q => q.1.val (q.2.den is)) = s.data.toList.map fun b => Value.int .u8 b.toNat := by
  simp [bytesQ, CK.val]

theorem indexM_spec {t : TypeId} {x i : SV} {u v : Value} (hx : SvIs ρ x u) (hi : SvIs ρ i v) : MSpec Φ C (indexM P t x i) ρ h w (DoesV P w h (Instr.index t u v)) := by
  refine MSpec.rep fun r0 => ?_
  intro r kk hk
  unfold indexM at hk
  split at hk
  · rename_i xs k a
    obtain ⟨hxs, rfl⟩ := hx.agg
    obtain ⟨ha, rfl⟩ := hi.int
    have one : ∀ {len : Nat} {elem : TypeId} {s : Nat} {j : Int} {ρ1 : Env} {h1 : H}, ρ.le ρ1 → h1.hp = h.hp → P.underlying t = some (.array len elem) → sizeT P elem = some s → isAggT P elem = some false → At.den ρ.is a = j →
        MSpec Φ C (if 0 ≤ j ∧ j < len then lift (xs[j.toNat * s]?) else M.no 110 : M SV) ρ1 h1 w (DoesV P w h (Instr.index t (.agg (SV.dens ρ xs).toArray) (.int k (At.den ρ.is a)))) := by
      intro len elem s j ρ1 h1 l1 hp1 eu es ea hj
      split
      · rename_i hc
        cases ey : xs[j.toNat * s]? with
        | none => exact MSpec.no
        | some y =>
          have := oks_get hxs ey
          refine MSpec.ret ⟨rfl, hp1, _, this.1.mono l1, fun W => ?_⟩
          simp [Instr.index, asIntOf, run_underlying eu, hj, hc, run_sizeOf' es, run_part_one ea this.2]
      · exact MSpec.no
    split at hk
    · rename_i len elem eu
      split at hk
      · rename_i s es ea
        split at hk
        · rename_i qs eq
          have eq' : numsOf xs = some qs := by
            split at eq
            · exact eq
            · cases eq
          have hn := numsOf_is hxs eq'
          have key : MSpec Φ C (if evenKinds qs s ∧ len * s = xs.length then pickNums qs s a else M.no 109 : M SV) ρ h w (DoesV P w h (Instr.index t (.agg (SV.dens ρ xs).toArray) (.int k (At.den ρ.is a)))) := by
            split
            · rename_i hc
              refine (pickNums_spec hn.2.1 hc.1 ha).mono ?_
              rintro sv ρ1 h1 w1 l1 ⟨rfl, hp1, c1, c2, hv⟩
              rw [← hn.2.2] at hv
              refine ⟨rfl, hp1, _, hv, fun W => ?_⟩
              have hs0 : 0 < s := by
                have := hc.1
                simp only [evenKinds, Bool.and_eq_true, decide_eq_true_eq] at this
                exact this.1.1
              have c3 : At.den ρ.is a < (len : Int) := by
                rw [hn.1, ← hc.2] at c2
                have : (At.den ρ.is a).toNat + 1 ≤ len := by
                  refine Nat.le_of_mul_le_mul_right ?_ hs0
                  rw [Nat.add_mul, Nat.one_mul]; exact c2
                omega
              simp [Instr.index, asIntOf, run_underlying eu, c1, c3, run_sizeOf' es, run_part_agg ea es]
            · exact MSpec.no
          exact key r kk hk
        refine ((splitAt_spec ha).bind (S := DoesV P w h (Instr.index t (.agg (SV.dens ρ xs).toArray) (.int k (At.den ρ.is a)))) ?_) r kk hk
        rintro j ρ1 h1 w1 l1 ⟨rfl, hp1, hj⟩
        split
        · rename_i hc
          refine MSpec.ret ⟨rfl, hp1, .agg ((SV.dens ρ xs).drop (j.toNat * s) |>.take s).toArray, (SvIs.mono (ρ := ρ) ⟨by rw [SV.ok]; exact oks_part _ _ hxs, by rw [SV.den, dens_part]⟩ l1), fun W => ?_⟩
          rw [← hj]
          simp [Instr.index, asIntOf, run_underlying eu, hc, run_sizeOf' es, run_part_agg ea es]
        · exact MSpec.no
      · rename_i s es ea
        split at hk
        · rename_i j ej
          exact one (Env.le_refl ρ) rfl eu es ea (fixed_ok r0.fact ej) r kk hk
        · split at hk
          · rename_i qs eq
            have hn := numsOf_is hxs eq
            have key : MSpec Φ C (if s = 1 ∧ len = xs.length then pickNum qs a else M.no 111 : M SV) ρ h w (DoesV P w h (Instr.index t (.agg (SV.dens ρ xs).toArray) (.int k (At.den ρ.is a)))) := by
              split
              · rename_i hc
                obtain ⟨rfl, hlen⟩ := hc
                refine (pickNum_spec hn.2.1 ha).mono ?_
                rintro sv ρ1 h1 w1 l1 ⟨rfl, hp1, c1, c2, v, hv, hg⟩
                refine ⟨rfl, hp1, v, hv, fun W => ?_⟩
                rw [← hn.2.2] at hg
                have c3 : At.den ρ.is a < (len : Int) := by rw [hlen, ← hn.1]; exact c2
                have hg' : (SV.dens ρ xs)[(At.den ρ.is a).toNat * 1]? = some v := by rw [Nat.mul_one]; exact hg
                simp [Instr.index, asIntOf, run_underlying eu, c1, c3, run_sizeOf' es]
                have := run_part_one (P := P) ea hg' W
                rw [Nat.mul_one] at this
                exact this
              · exact MSpec.no
            exact key r kk hk
          · refine ((splitAt_spec ha).bind (S := DoesV P w h (Instr.index t (.agg (SV.dens ρ xs).toArray) (.int k (At.den ρ.is a)))) ?_) r kk hk
            rintro j ρ1 h1 w1 l1 ⟨rfl, hp1, hj⟩
            exact one l1 hp1 eu es ea hj.symm
      · exact hk.elim
    · exact hk.elim
  · rename_i s k a
    obtain rfl := hx.raw
    obtain ⟨ha, rfl⟩ := hi.int
    split at hk
    · rename_i eu
      split at hk
      · rename_i j ej
        have hj := fixed_ok r0.fact ej
        have key : MSpec Φ C (if 0 ≤ j then (match s[j.toNat]? with | some b => pure (.i .u8 (.c b.toNat)) | none => M.no 113) else M.no 114 : M SV) ρ h w (DoesV P w h (Instr.index t (.string s) (.int k (At.den ρ.is a)))) := by
          split
          · rename_i hc
            split
            · rename_i b eb
              refine MSpec.ret ⟨rfl, rfl, _, (AtIs.c ρ b.toNat).svi, fun W => ?_⟩
              simp [Instr.index, asIntOf, run_underlying eu, hj, hc, eb]
            · exact MSpec.no
          · exact MSpec.no
        exact key r kk hk
      · refine ((pickNum_spec (fun q hq => ?_) ha).mono (S := DoesV P w h (Instr.index t (.string s) (.int k (At.den ρ.is a)))) ?_) r kk hk
        · simp only [bytesQ, List.mem_map] at hq
          obtain ⟨b, _, rfl⟩ := hq
          rfl
        · rintro sv ρ1 h1 w1 l1 ⟨rfl, hp1, c1, c2, v, hv, hg⟩
          refine ⟨rfl, hp1, v, hv, fun W => ?_⟩
          rw [bytesQ_is, List.getElem?_map, toList_get] at hg
          cases eb : s[(At.den ρ.is a).toNat]? with
          | none => rw [eb] at hg; cases hg
          | some b =>
            rw [eb] at hg
            simp only [Option.map_some, Option.some.injEq] at hg
            subst hg
            simp [Instr.index, asIntOf, run_underlying eu, c1, eb]
    · exact hk.elim
  · exact hk.elim

theorem extractM_spec {x : SV} {u : Value} {i : Nat} (hx : SvIs ρ x u) : MSpec Φ C (extractM x i) ρ h w (DoesV P w h (Instr.extract u i)) := by
  unfold extractM
  split
  · rename_i xs
    have hok : SV.oks ρ.is.length ρ.bs.length xs = true := by have := hx.1; rwa [SV.ok] at this
    have hu : u = .tuple (SV.dens ρ xs).toArray := by rw [← hx.2, SV.den]
    subst hu
    cases ey : xs[i]? with
    | none => exact MSpec.no
    | some y =>
      have := oks_get hok ey
      refine MSpec.ret ⟨rfl, rfl, _, this.1, fun W => ?_⟩
      simp [Instr.extract, this.2]
  · exact MSpec.no

theorem mkIfaceM_spec {t : TypeId} {x : SV} {u : Value} (hx : SvIs ρ x u) : MSpec Φ C (mkIfaceM P t x) ρ h w (DoesV P w h (Instr.makeInterface t u)) := by
  unfold mkIfaceM
  split
  · rename_i hc
    exact MSpec.ret ⟨rfl, rfl, _, ⟨by rw [SV.ok]; exact hx.1, by rw [SV.den, hx.2]⟩, fun W => run_makeInterface W t u hc⟩
  · exact MSpec.no
end
end Go.Sx
/- Built-in functions that only compute; making and cutting slices; one function for all operations that are no calls of Go functions. -/
set_option linter.unusedVariables false
namespace Go.Sx

def lenM (P : Program) (t : TypeId) (x : SV) : M SV :=
  match P.underlying t, x with
  | some .string, .raw (.string s) => pure (.i .i64 (.c s.size))
  | some (.array n _), _ => pure (.i .i64 (.c n))
  | some (.pointer a), _ => (match P.underlying a with
    | some (.array n _) => pure (.i .i64 (.c n))
    | _ => M.no 120)
  | some (.slice _), .nils => pure (.i .i64 (.c 0))
  | some (.slice _), .slc _ _ len _ => do
    need .geq len (.c 0)
    pure (.i .i64 len)
  | some (.slice _), .vec _ len cap => do
    need .geq len (.c 0)
    let z ← mkI (.pick cap len (.c 0))
    pure (.i .i64 z)
  | _, _ => M.no 121
def minmaxM (mx : Bool) (x y : SV) : M SV :=
  match x, y with
  | .i k a, .i _ b => do let z ← mkI (if mx then .mx a b else .mn a b); pure (.i k z)
  | _, _ => M.no 122
def builtinM (P : Program) (b : Builtin) (ts : Array TypeId) (args : List (Option SV)) : M SV :=
  match b, args with
  | .len, [some x] => (match ts[0]? with
    | some t => lenM P t x
    | none => M.no 123)
  | .min, [some x, some y] => minmaxM false x y
  | .max, [some x, some y] => minmaxM true x y
  | _, _ => M.no 124
/-- A block of numbers, its content given by a list's operation. -/
def newArr (ks : List CK) (o : LOp) (len : At) (elem : TypeId) : M SV := do
  let l ← mkL o
  fun h kk => kk (.ptr h.nb (.c 0)) { h with hp := (h.nb, .arr ks l len len elem) :: h.hp, nb := h.nb + 1 }
/-- The kinds of cells that are all 0. -/
def zeroKinds : List SV → Option (List CK)
  | [] => some []
  | .i k (.c 0) :: r => (zeroKinds r).map (.i k :: ·)
  | .b (.c 0) :: r => (zeroKinds r).map (.b :: ·)
  | _ => none
/-- One kind, if all are one. -/
def oneKind (ks : List CK) : List CK :=
  match ks with
  | k :: r => if r.all (fun x => decide (x = k)) then [k] else ks
  | [] => []
def makeSliceM (P : Program) (t : TypeId) (len cap : SV) : M SV :=
  match P.underlying t, len, cap with
  | some (.slice elem), .i _ a, .i _ b => (match sizeT P elem, zeroCellsT P elem, P.info? elem with
    | some s, some zs, some inf =>
      if a = b then (do
        need .geq a (.c 0)
        need .leq a (.c 1000000)
        if inf.bytes ≤ 1000 then
          match a with
          | .c n => if zs.length = s ∧ 0 < n.toNat * s then (do
              let p ← newBlk (repeatZ zs n.toNat) elem
              match p with
              | .ptr q o => pure (.slc q o a a)
              | _ => M.no 125) else M.no 126
          | a => if zs.length = s ∧ 0 < s then (match zeroKinds zs with
            | some ks => do
              need .gtr a (.c 0)
              let m ← mkI (.mul a (.c s))
              let p ← newArr (oneKind ks) (.rep m (.c 0)) m elem
              match p with
              | .ptr q o => pure (.slc q o a a)
              | _ => M.no 127
            | none => M.no 128) else M.no 128
        else M.no 129) else M.no 130
    | _, _, _ => M.no 131)
  | _, _, _ => M.no 132

section
variable {Φ : Phi} {C : Ctx} {ρ : Env} {h : H} {w : World} {P : Program}

theorem lenM_spec {t ty : TypeId} {ts : Array TypeId} {x : SV} {u : Value} (ht : ts[0]? = some t) (hx : SvIs ρ x u) : MSpec Φ C (lenM P t x) ρ h w (DoesV P w h (Builtin.len_ ts ty #[u])) := by
  unfold lenM
  split
  · rename_i s eu
    obtain rfl := hx.raw
    exact MSpec.ret ⟨rfl, rfl, _, (AtIs.c ρ s.size).svi, fun W => by simp [Builtin.len_, ht, run_underlying eu, goInt]⟩
  · rename_i n e eu
    exact MSpec.ret ⟨rfl, rfl, _, (AtIs.c ρ n).svi, fun W => by simp [Builtin.len_, ht, run_underlying eu, goInt]⟩
  · rename_i a eu
    split
    · rename_i n e eu'
      exact MSpec.ret ⟨rfl, rfl, _, (AtIs.c ρ n).svi, fun W => by simp [Builtin.len_, ht, run_underlying eu, run_underlying eu', goInt]⟩
    · exact MSpec.no
  · rename_i e eu
    obtain rfl := hx.nils
    exact MSpec.ret ⟨rfl, rfl, _, (AtIs.c ρ 0).svi, fun W => by simp [Builtin.len_, ht, run_underlying eu, goInt]⟩
  · rename_i e n o len cap eu
    obtain ⟨_, _, hl, _, rfl⟩ := hx.slc
    refine (need_spec hl (AtIs.c ρ 0)).bind ?_
    rintro _ ρ1 h1 w1 l1 ⟨rfl, hp1, c1⟩
    simp only [cmpB, decide_eq_true_eq] at c1
    refine MSpec.ret ⟨rfl, hp1, _, (hl.mono l1).svi, fun W => ?_⟩
    simp [Builtin.len_, ht, run_underlying eu, goInt, Int.toNat_of_nonneg c1]
  · rename_i e n len cap eu
    obtain ⟨_, hl, hc, rfl⟩ := hx.vec
    refine (need_spec hl (AtIs.c ρ 0)).bind ?_
    rintro _ ρ1 h1 w1 l1 ⟨rfl, hp1, c1⟩
    simp only [cmpB, decide_eq_true_eq] at c1
    refine (mkI_ok (o := .pick cap len (.c 0)) (by simp only [IOp.okB, IOp.atoms, List.all_cons, List.all_nil, Bool.and_true, (hl.mono l1).1, (hc.mono l1).1]; rfl)).bind ?_
    rintro z ρ2 h2 w2 l2 ⟨rfl, hp2, hz⟩
    refine MSpec.ret ⟨rfl, by rw [hp2, hp1], _, hz.svi, fun W => ?_⟩
    simp only [IOp.den, (hl.mono l1).val, (hc.mono l1).val, At.den_c]
    by_cases h0 : cap.den ρ.is = 0
    · simp [Builtin.len_, ht, run_underlying eu, goInt, h0]
    · simp [Builtin.len_, ht, run_underlying eu, goInt, h0, Int.toNat_of_nonneg c1]
  · exact MSpec.no

theorem minmaxM_spec {mx : Bool} {x y : SV} {u v : Value} {ts : Array TypeId} {ty : TypeId} (hx : SvIs ρ x u) (hy : SvIs ρ y v) :
    MSpec Φ C (minmaxM mx x y) ρ h w (DoesV P w h (if mx then Builtin.max_ ts ty #[u, v] else Builtin.min_ ts ty #[u, v])) := by
  unfold minmaxM
  split
  · rename_i k a k' b
    obtain ⟨ha, rfl⟩ := hx.int
    obtain ⟨hb, rfl⟩ := hy.int
    cases mx
    · simp only [Bool.false_eq_true, if_false]
      refine (mkI_ok (okB2 ha.1 hb.1 (.mn a b) rfl rfl)).bind ?_
      rintro z ρ1 h1 w1 l1 ⟨rfl, hp1, hz⟩
      simp only [IOp.den] at hz
      exact MSpec.ret ⟨rfl, hp1, _, hz.svi, fun W => run_min_int2 _ _ _ _ _ _ _⟩
    · simp only [if_true]
      refine (mkI_ok (okB2 ha.1 hb.1 (.mx a b) rfl rfl)).bind ?_
      rintro z ρ1 h1 w1 l1 ⟨rfl, hp1, hz⟩
      simp only [IOp.den] at hz
      exact MSpec.ret ⟨rfl, hp1, _, hz.svi, fun W => run_max_int2 _ _ _ _ _ _ _⟩
  · exact MSpec.no

def ArgsAre (ρ : Env) : List (Option SV) → List Value → Prop
  | [], [] => True
  | x :: r, v :: s => (∀ y, x = some y → SvIs ρ y v) ∧ ArgsAre ρ r s
  | _, _ => False

theorem builtinM_spec {b : Builtin} {ts : Array TypeId} {args : List (Option SV)} {vs : Array Value} {ty : TypeId} (ha : ArgsAre ρ args vs.toList) :
    MSpec Φ C (builtinM P b ts args) ρ h w fun sv ρ' h' w' => w' = w ∧ h'.hp = h.hp ∧ ∃ v, SvIs ρ' sv v ∧ ∀ (cs : Array Bool) (W : World), (builtin b ts ty cs vs).run P W = .ok (.value v) W := by
  obtain ⟨vs⟩ := vs
  simp only at ha
  unfold builtinM
  split
  · rename_i x
    match vs, ha with
    | [v], ha =>
      split
      · rename_i t et
        refine (lenM_spec (P := P) (ty := ty) et (ha.1 x rfl)).mono ?_
        rintro sv ρ' h' w' l ⟨rfl, hp, z, hz, hr⟩
        exact ⟨rfl, hp, z, hz, fun cs W => by simp [builtin, hr]⟩
      · exact MSpec.no
    | [], ha => exact ha.elim
    | _ :: _ :: _, ha => exact (ha.2).elim
  · rename_i x y
    match vs, ha with
    | [u, v], ha =>
      refine (minmaxM_spec (P := P) (mx := false) (ts := ts) (ty := ty) (ha.1 x rfl) (ha.2.1 y rfl)).mono ?_
      rintro sv ρ' h' w' l ⟨rfl, hp, z, hz, hr⟩
      simp only [Bool.false_eq_true, if_false] at hr
      exact ⟨rfl, hp, z, hz, fun cs W => by simp [builtin, hr]⟩
    | [], ha => exact ha.elim
    | [_], ha => exact (ha.2).elim
    | _ :: _ :: _ :: _, ha => exact (ha.2.2).elim
  · rename_i x y
    match vs, ha with
    | [u, v], ha =>
      refine (minmaxM_spec (P := P) (mx := true) (ts := ts) (ty := ty) (ha.1 x rfl) (ha.2.1 y rfl)).mono ?_
      rintro sv ρ' h' w' l ⟨rfl, hp, z, hz, hr⟩
      simp only [if_true] at hr
      exact ⟨rfl, hp, z, hz, fun cs W => by simp [builtin, hr]⟩
    | [], ha => exact ha.elim
    | [_], ha => exact (ha.2).elim
    | _ :: _ :: _ :: _, ha => exact (ha.2.2).elim
  · exact MSpec.no

theorem newArr_spec {ks : List CK} {o : LOp} {len : At} {elem : TypeId} {xs : List Int} (ho : o.okB ρ.is.length ρ.ls.length = true) (hxs : o.den ρ.is ρ.ls = xs) {n : Int} (hl : AtIs ρ len n) (hn : (xs.length : Int) = n) (h0 : n ≠ 0) :
    MSpec Φ C (newArr ks o len elem) ρ h w fun sv ρ' h' w' => SvIs ρ' sv (.pointer (some ⟨w.heap.size, 0, none⟩)) ∧ w' = w.alloc (.cells (cellsOf ks xs).toArray elem (0, 0)) := by
  unfold newArr
  refine (mkL_ok ho).bind ?_
  rintro l ρ1 h1 w1 l1 ⟨rfl, hp1, hL⟩
  rw [hxs] at hL
  have hl1 := hl.mono l1
  intro r kk hk
  have hat : (ρ1.pushB w1.heap.size).b h1.nb = (w1.heap.size, 0) := by rw [← r.nb]; exact pushB_at ρ1 _
  have le := Env.le_app ρ1 ⟨[], [], [(w1.heap.size, 0)]⟩
  have hL' : (ρ1.pushB w1.heap.size).ls.getD l [] = xs := (hL.mono le).2
  have hl' : At.den (ρ1.pushB w1.heap.size).is len = n := (hl1.mono le).2
  refine ⟨.ptr h1.nb (.c 0), ρ1.pushB w1.heap.size, _, _, Env.le_app _ _, r.alloc (b := .arr ks l len len elem) (.cells (cellsOf ks xs).toArray elem (0, 0)) ?_ ?_ ?_, ?_, ?_, rfl⟩
  · simp [Blk.phys, hat, hl', h0]
  · simp only [Blk.inB, Bool.and_eq_true, decide_eq_true_eq]; exact ⟨hL.1, hl1.1, hl1.1⟩
  · simp only [Blk.holds]
    rw [hL', hl', hat]
    refine ⟨hn, fun hz => absurd hz h0, fun _ => ⟨rfl, [], ?_, ?_⟩⟩
    · rw [List.append_nil]
      exact heap_alloc_new w1 _
    · simp [cellsOf_len, hn]
  · have hk' : Tree.den Φ (kk (SV.ptr h1.nb (At.c 0)) { h1 with hp := (h1.nb, .arr ks l len len elem) :: h1.hp, nb := h1.nb + 1 }) ρ1.is ρ1.ls := hk
    simpa [Env.pushB, Env.app] using hk'
  · refine ⟨by simp [SV.ok, Env.pushB, Env.app, r.nb, At.lt], ?_⟩
    simp only [SV.den, Env.at, hat]
    simp

theorem zeroKinds_ok : ∀ {zs : List SV} {ks : List CK}, zeroKinds zs = some ks → ks.length = zs.length ∧ ∀ ρ : Env, SV.dens ρ zs = ks.map (·.val 0)
  | [], ks, e => by cases e; exact ⟨rfl, fun ρ => rfl⟩
  | z :: r, ks, e => by
    unfold zeroKinds at e
    split at e
    · rename_i h; cases h
    · rename_i k r' h
      cases h
      cases er : zeroKinds r with
      | none => rw [er] at e; cases e
      | some q =>
        rw [er] at e; cases e
        have ih := zeroKinds_ok er
        exact ⟨by simp [ih.1], fun ρ => by simp [SV.dens, SV.den, ih.2, CK.val]⟩
    · rename_i r' h
      cases h
      cases er : zeroKinds r with
      | none => rw [er] at e; cases e
      | some q =>
        rw [er] at e; cases e
        have ih := zeroKinds_ok er
        exact ⟨by simp [ih.1], fun ρ => by simp [SV.dens, SV.den, ih.2, CK.val]⟩
    · cases e
theorem oneKind_cell (ks : List CK) (hk : 0 < ks.length) (j : Nat) (n : Int) : cellAt (oneKind ks) j n = cellAt ks j n := by
  unfold oneKind
  split
  · rename_i k r
    split
    · rename_i h
      simp only [cellAt, List.length_cons]
      have : ∀ i, i < (k :: r).length → (k :: r).getD i (.i .i64) = k := by
        intro i hi
        simp only [List.getD, List.getElem?_eq_getElem hi, Option.getD_some]
        rcases List.mem_cons.1 (List.getElem_mem hi) with hh | hh
        · exact hh
        · exact of_decide_eq_true (List.all_eq_true.1 h _ hh)
      rw [this (j % (r.length + 1)) (Nat.mod_lt _ (by simp))]
      simp [Nat.mod_one]
    · rfl
  · simp at hk
theorem oneKind_cells (ks : List CK) (hk : 0 < ks.length) (l : List Int) : cellsOf (oneKind ks) l = cellsOf ks l := by
  unfold cellsOf
  congr 1
  funext j n
  exact oneKind_cell ks hk j n
theorem zero_cells {z : Array Value} {ks : List CK} (hz : z = (ks.map (·.val 0)).toArray) (hk : 0 < ks.length) (m : Nat) :
    (Array.range m).map (fun i => z[i % z.size]!) = (cellsOf (oneKind ks) (List.replicate m 0)).toArray := by
  rw [oneKind_cells ks hk]
  apply Array.ext'
  apply List.ext_getElem?
  intro i
  by_cases hi : i < m
  · have hm : i % ks.length < ks.length := Nat.mod_lt _ hk
    simp [hi, hz, cellsOf, cellAt, hm]
  · rw [List.getElem?_eq_none (by simpa using hi), List.getElem?_eq_none (by simpa [cellsOf] using hi)]

theorem wrap_small {k : IntKind} {x : Int} (h0 : 0 ≤ x) (h1 : x ≤ 1000000) (hk : k = .i64) : k.wrap x = x := by
  subst hk; exact wrap_in .i64 x (by simp [IntKind.min, IntKind.signed, IntKind.bits]; omega) (by simp; omega)

theorem makeSlice_run {t elem : TypeId} {k k' : IntKind} {n s : Nat} {inf : TypeInfo} {z : Value} (eu : P.underlying t = some (.slice elem)) (es : sizeT P elem = some s) (ez : zeroT P elem = some z)
    (ei : P.info? elem = some inf) (hb : inf.bytes ≤ 1000) (hn : n ≤ 1000000) (hpos : 0 < n * s) :
    (Instr.makeSlice t (.int k n) (.int k' n)).run P w = .ok (.slice (some ⟨w.heap.size, 0, none⟩) n n) (w.alloc (.cells ((Array.range (n * s)).map (fun i => z.cells[i % z.cells.size]!)) elem (0, 0))) := by
  have hw : IntKind.i64.wrap (n : Int) = n := wrap_small (by omega) (by omega) rfl
  have h0 : ¬ ((n : Int) < 0) := by omega
  have h2 : ¬ ((inf.bytes : Int) * (n : Int) > 2 ^ 48) := by
    have : (inf.bytes : Int) * (n : Int) ≤ 1000 * 1000000 := Int.mul_le_mul (by omega) (by omega) (by omega) (by omega)
    omega
  have h3 : ¬ ((n : Int) > (n : Int)) := by omega
  have hns : ¬ n * s = 0 := by omega
  simp only [Instr.makeSlice, Sem.run_bind, run_underlying eu, Result.andThen_ok, asInt, asIntOf, Sem.run_pure, typeInfo, run_program, ei, hw]
  simp only [h0, h2, h3, decide_false, Bool.or_self, Bool.false_eq_true, if_false, Sem.run_pure, Result.andThen_ok, Sem.run_bind, run_askRoom, run_sizeOf' es, Int.toNat_natCast, hns, run_zeroValue' ez]
  simp [newRow]

theorem makeSliceM_spec {t : TypeId} {x y : SV} {u v : Value} (hx : SvIs ρ x u) (hy : SvIs ρ y v) : MSpec Φ C (makeSliceM P t x y) ρ h w (Does P (Instr.makeSlice t u v) w) := by
  unfold makeSliceM
  split
  · rename_i elem k a k' b eu
    obtain ⟨ha, rfl⟩ := hx.int
    obtain ⟨hb, rfl⟩ := hy.int
    split
    · rename_i s zs inf es ezs ei
      obtain ⟨z, ez, hzo, hzc⟩ := zeroCellsT_is ezs w
      split
      · rename_i hab
        subst hab
        refine (need_spec ha (AtIs.c ρ 0)).bind ?_
        rintro _ ρ1 h1 w1 l1 ⟨rfl, hp1, c1⟩
        refine (need_spec (ha.mono l1) (AtIs.c ρ1 1000000)).bind ?_
        rintro _ ρ2 h2 w2 l2 ⟨rfl, hp2, c2⟩
        simp only [cmpB, decide_eq_true_eq] at c1 c2
        have l12 := Env.le_trans l1 l2
        have ha2 := ha.mono l12
        obtain ⟨m, hm⟩ := Int.eq_ofNat_of_zero_le c1
        rw [hm] at ha2 c2 ⊢
        split
        · rename_i hbytes
          split
          · rename_i _ _ n
            have hn : n = (m : Int) := by have := ha2.2; simpa using this
            subst hn
            split
            · rename_i hc
              simp only [Int.toNat_natCast] at hc ⊢
              have hs0 : 0 < s := by
                rcases Nat.eq_zero_or_pos s with h0 | h0
                · subst h0; omega
                · exact h0
              refine (newBlk_spec (repeatZ_ok (hzo ρ2) m)).bind ?_
              rintro p ρ3 h3 w3 l3 ⟨hp3, rfl⟩
              split
              · rename_i q o
                obtain ⟨hq, ho, hat⟩ := hp3.ptr
                have hat' : ρ3.at q o = ⟨w2.heap.size, 0, none⟩ := by simpa using hat.symm
                refine MSpec.ret ⟨_, ⟨by simp only [SV.ok, hq, ho.1, decide_true]; rfl, rfl⟩, ?_⟩
                rw [makeSlice_run eu es ez ei hbytes (by omega) hc.2, hzc ρ2, repeatZ_dens hc.1 hs0]
                simp [SV.den, hat']
              · exact MSpec.no
            · exact MSpec.no
          · split
            · rename_i hzs
              split
              · rename_i ks ek
                have hks := zeroKinds_ok ek
                refine (need_spec ha2 (AtIs.c ρ2 0)).bind ?_
                rintro _ ρ3 h3 w3 l3 ⟨rfl, hp3, c3⟩
                simp only [cmpB, decide_eq_true_eq] at c3
                have ha3 := ha2.mono l3
                refine (mul_spec ha3 (AtIs.c ρ3 s)).bind ?_
                rintro mm ρ4 h4 w4 l4 ⟨rfl, hp4, hmm⟩
                have hm0 : 0 < m * s := Nat.mul_pos (by omega) hzs.2
                have hks0 : 0 < ks.length := by rw [hks.1, hzs.1]; exact hzs.2
                have ems : (m : Int) * (s : Int) = ((m * s : Nat) : Int) := (Int.natCast_mul m s).symm
                refine (newArr_spec (xs := List.replicate (m * s) 0) (by simp only [LOp.okB, hmm.1, Bool.true_and]; rfl) (by simp only [LOp.den, hmm.2, ems, Int.toNat_natCast]; rfl) hmm (by simp) (by omega)).bind ?_
                rintro p ρ5 h5 w5 l5 ⟨hp5, rfl⟩
                split
                · rename_i q o
                  obtain ⟨hq, ho, hat⟩ := hp5.ptr
                  have hat' : ρ5.at q o = ⟨w4.heap.size, 0, none⟩ := by simpa using hat.symm
                  have ha5 := (ha3.mono l4).mono l5
                  refine MSpec.ret ⟨_, ⟨by simp only [SV.ok, hq, ho.1, ha5.1, decide_true]; rfl, rfl⟩, ?_⟩
                  rw [makeSlice_run eu es ez ei hbytes (by omega) hm0, zero_cells (by rw [hzc ρ5, hks.2]) hks0]
                  simp [SV.den, hat', ha5.2]
                · exact MSpec.no
              · exact MSpec.no
            · exact MSpec.no
        · exact MSpec.no
      · exact MSpec.no
    · exact MSpec.no
  · exact MSpec.no
end
end Go.Sx
/- One operation that is no call of a Go function. -/
set_option linter.unusedVariables false
namespace Go.Sx

def with1 (x : Option SV) (f : SV → M SV) : M SV :=
  match x with
  | some x => f x
  | none => M.no 140
def opM (P : Program) (ro : List (Addr × Value)) (ev : Operand → Option SV) (o : Oper) : M SV :=
  match o.op with
  | .move x => lift (ev x)
  | .assign x => lift (ev x)
  | .pick c a b => pickM (ev c) (ev a) (ev b)
  | .alloc t => allocM P t
  | .box t x => with1 (ev x) (boxM t)
  | .build t ps => buildM P t (ps.toList.map fun p => (p.1, ev p.2))
  | .buildSlice t n ps => buildSliceM P t n (ps.toList.map fun p => (p.1, ev p.2))
  | .load t x => with1 (ev x) (ldVar P ro t)
  | .store t a x => with1 (ev a) fun a => with1 (ev x) fun x => do stVar P t a x; pure (.tup [])
  | .nilCheck x => with1 (ev x) nilChk
  | .binOp op t x y _ => with1 (ev x) fun u => with1 (ev y) fun v => binM P op t x y u v
  | .unOp op _ x => with1 (ev x) (unM op)
  | .convert s d x => with1 (ev x) (convM P s d)
  | .makeInterface t x => with1 (ev x) (mkIfaceM P t)
  | .makeFunc f first cs => if first.size = 0 then (match allSome (cs.toList.map ev) with
    | some xs => pure (.fn f xs)
    | none => M.no 141) else M.no 142
  | .makeSlice t l c => with1 (ev l) fun l => with1 (ev c) fun c => makeSliceM P t l c
  | .fieldAddr t x i => with1 (ev x) fun x => fieldAddrM P t x i
  | .field t x i => with1 (ev x) fun x => fieldM P t x i
  | .indexAddr t x i => with1 (ev x) fun x => with1 (ev i) fun i => indexAddrM P t x i
  | .index t x i => with1 (ev x) fun x => with1 (ev i) fun i => indexM P t x i
  | .extract x i => with1 (ev x) fun x => extractM x i
  | .call c => (match c.callee with
    | .builtin b => builtinM P b c.argTypes (c.args.toList.map ev)
    | _ => M.no 143)
  | _ => M.no 144

section
variable {Φ : Phi} {C : Ctx} {ρ : Env} {h : H} {w : World} {P : Program}

def OpDoes (P : Program) (ev : Operand → Value) (o : Oper) (w : World) : SV → Env → H → World → Prop := fun sv ρ1 _ w1 =>
  ∃ v, SvIs ρ1 sv v ∧ ((execOp ev o).run P w = .ok (.value v) w1 ∨ ((execOp ev o).run P w = .ok .skip w1 ∧ v = undef))

theorem allSome_is {ρ : Env} {sl : Slots} {a : Act} (r : RepS ρ sl a) : ∀ (l : List Operand) (xs : List SV), allSome (l.map (evalO sl)) = some xs → SV.oks ρ.is.length ρ.bs.length xs = true ∧ SV.dens ρ xs = l.map a.eval
  | [], xs, e => by cases e; exact ⟨rfl, rfl⟩
  | x :: l, xs, e => by
    simp only [List.map_cons] at e
    cases ex : evalO sl x with
    | none => rw [ex] at e; cases e
    | some y =>
      rw [ex] at e
      simp only [allSome] at e
      cases er : allSome (l.map (evalO sl)) with
      | none => rw [er] at e; cases e
      | some ys =>
        rw [er] at e
        simp only [Option.map_some, Option.some.injEq] at e
        subst e
        have ih := allSome_is r l ys er
        have hy := evalO_is r ex
        exact ⟨by simp only [SV.oks, Bool.and_eq_true]; exact ⟨hy.1, ih.1⟩, by simp only [SV.dens, List.map_cons, hy.2, ih.2]⟩
theorem parts_are {ρ : Env} {sl : Slots} {a : Act} (r : RepS ρ sl a) : ∀ (l : List (Nat × Operand)), PartsAre ρ (l.map fun p => (p.1, evalO sl p.2)) (l.map fun p => (p.1, a.eval p.2))
  | [] => trivial
  | p :: l => ⟨rfl, fun y hy => evalO_is r hy, parts_are r l⟩
theorem args_are {ρ : Env} {sl : Slots} {a : Act} (r : RepS ρ sl a) : ∀ (l : List Operand), ArgsAre ρ (l.map (evalO sl)) (l.map a.eval)
  | [] => trivial
  | p :: l => ⟨fun y hy => evalO_is r hy, args_are r l⟩

theorem with1_spec {x : Option SV} {f : SV → M SV} {R : SV → Env → H → World → Prop} {v : Value} (hx : ∀ y, x = some y → SvIs ρ y v) (hf : ∀ y, SvIs ρ y v → MSpec Φ C (f y) ρ h w R) :
    MSpec Φ C (with1 x f) ρ h w R := by
  unfold with1
  split
  · rename_i y
    exact hf y (hx y rfl)
  · exact MSpec.no

set_option maxHeartbeats 4000000 in
theorem opM_spec {ro : List (Addr × Value)} (hro : RoOk C ro) {sl : Slots} {a : Act} (r : RepS ρ sl a) (o : Oper) :
    MSpec Φ C (opM P ro (evalO sl) o) ρ h w (OpDoes P a.eval o w) := by
  have E : ∀ {x : Operand}, ∀ y, evalO sl x = some y → SvIs ρ y (a.eval x) := fun y hy => evalO_is r hy
  have val : ∀ (m : M SV) (s : Sem Value), execOp a.eval o = (do pure (.value (← s))) → MSpec Φ C m ρ h w (Does P s w) → MSpec Φ C m ρ h w (OpDoes P a.eval o w) := by
    intro m s hs hm
    refine hm.mono ?_
    rintro sv ρ1 h1 w1 l ⟨v, hv, hr⟩
    exact ⟨v, hv, .inl (by rw [hs]; simp [hr])⟩
  have valV : ∀ (m : M SV) (s : Sem Value), execOp a.eval o = (do pure (.value (← s))) → MSpec Φ C m ρ h w (DoesV P w h s) → MSpec Φ C m ρ h w (OpDoes P a.eval o w) := by
    intro m s hs hm
    refine val m s hs (hm.mono ?_)
    rintro sv ρ1 h1 w1 l ⟨e1, _, v, hv, hr⟩
    subst e1
    exact ⟨v, hv, hr _⟩
  obtain ⟨dst, op, type, pos, after, guard⟩ := o
  cases op <;> simp only [opM] <;> try exact MSpec.no
  case move x => exact (lift_spec (P := P) (s := pure (a.eval x)) E (fun W => by simp)).mono (by rintro sv ρ1 h1 w1 l ⟨e1, _, v, hv, hr⟩; subst e1; exact ⟨v, hv, .inl (by simpa [execOp] using hr w1)⟩)
  case assign x => exact (lift_spec (P := P) (s := pure (a.eval x)) E (fun W => by simp)).mono (by rintro sv ρ1 h1 w1 l ⟨e1, _, v, hv, hr⟩; subst e1; exact ⟨v, hv, .inl (by simpa [execOp] using hr w1)⟩)
  case pick c x y =>
    refine (pickM_spec (P := P) (cv := a.eval c) (av := a.eval x) (bv := a.eval y) E E E).mono ?_
    rintro sv ρ1 h1 w1 l ⟨e1, _, v, hv, hr⟩
    subst e1
    refine ⟨v, hv, .inl ?_⟩
    have hr := hr w1
    simp only [execOp, Sem.run_bind] at hr ⊢
    cases hb : (asBool (a.eval c)).run P w1 with
    | ok b w' =>
      rw [hb] at hr
      simp only [Result.andThen_ok, Sem.run_pure, Result.ok.injEq] at hr ⊢
      rw [hr.1]; exact ⟨rfl, hr.2⟩
    | halt x w' => rw [hb] at hr; cases hr
  case alloc t => exact val _ _ rfl allocM_spec
  case box t x => exact val _ _ rfl (with1_spec E fun y hy => boxM_spec hy)
  case build t ps => exact valV _ (Instr.build t (ps.map fun (i, x) => (i, a.eval x))) rfl (buildM_spec (by simpa using parts_are r ps.toList))
  case buildSlice t n ps => exact val _ (Instr.buildSlice t n (ps.map fun (i, x) => (i, a.eval x))) rfl (buildSliceM_spec (by simpa using parts_are r ps.toList))
  case load t x =>
    refine val _ _ rfl (with1_spec E fun y hy => (ldVar_spec hro hy).mono ?_)
    rintro sv ρ1 h1 w1 l ⟨e1, _, hd⟩
    subst e1; exact hd
  case store t p x =>
    refine with1_spec E fun u hu => with1_spec E fun y hy => ?_
    refine (stVar_spec (P := P) hu hy).bind ?_
    rintro _ ρ1 h1 w1 l1 hs
    exact MSpec.ret ⟨undef, ⟨rfl, rfl⟩, .inr ⟨by simp only [DoesU] at hs; simp [execOp, hs], rfl⟩⟩
  case nilCheck x =>
    refine with1_spec E fun y hy => (nilChk_spec (P := P) (w := w) hy (o := ⟨dst, .nilCheck x, type, pos, after, guard⟩) rfl rfl).mono ?_
    rintro sv ρ1 h1 w1 l ⟨e1, _, v, hv, hr⟩
    subst e1; exact ⟨v, hv, .inl (hr _)⟩
  case binOp op t x y ty =>
    refine valV _ _ rfl (with1_spec E fun u hu => with1_spec E fun v hv => binM_spec hu hv)
  case unOp op t x => exact valV _ _ rfl (with1_spec E fun y hy => unM_spec hy)
  case convert s d x => exact valV _ _ rfl (with1_spec E fun y hy => convM_spec hy)
  case makeInterface t x => exact valV _ _ rfl (with1_spec E fun y hy => mkIfaceM_spec hy)
  case makeFunc f first cs =>
    split
    · rename_i hf
      split
      · rename_i xs exs
        have hx := allSome_is r cs.toList xs exs
        refine MSpec.ret ⟨.func f #[] (SV.dens ρ xs).toArray, ⟨by rw [SV.ok]; exact hx.1, by rw [SV.den]⟩, .inl ?_⟩
        have e1 : first.map a.eval = #[] := by rw [Array.eq_empty_of_size_eq_zero hf]; simp
        have e2 : cs.map a.eval = (SV.dens ρ xs).toArray := by rw [hx.2, ← Array.toList_map]
        simp only [execOp, Instr.makeFunc, e1, e2]
        simp
      · exact MSpec.no
    · exact MSpec.no
  case makeSlice t l c => exact val _ _ rfl (with1_spec E fun y hy => with1_spec E fun z hz => makeSliceM_spec hy hz)
  case fieldAddr t x i => exact valV _ _ rfl (with1_spec E fun y hy => fieldAddrM_spec hy)
  case field t x i => exact valV _ _ rfl (with1_spec E fun y hy => fieldM_spec hy)
  case indexAddr t x i => exact valV _ _ rfl (with1_spec E fun y hy => with1_spec E fun z hz => indexAddrM_spec hy hz)
  case index t x i => exact valV _ _ rfl (with1_spec E fun y hy => with1_spec E fun z hz => indexM_spec hy hz)
  case extract x i => exact valV _ _ rfl (with1_spec E fun y hy => extractM_spec hy)
  case call c =>
    obtain ⟨callee, args, argTypes⟩ := c
    cases callee <;> simp only <;> try exact MSpec.no
    rename_i b
    refine (builtinM_spec (P := P) (ty := type) (vs := args.map a.eval) (by simpa using args_are r args.toList)).mono ?_
    rintro sv ρ1 h1 w1 l ⟨e1, _, v, hv, hr⟩
    subst e1
    exact ⟨v, hv, .inl (by simp [execOp, resolve, invoke, hr])⟩
end
end Go.Sx
