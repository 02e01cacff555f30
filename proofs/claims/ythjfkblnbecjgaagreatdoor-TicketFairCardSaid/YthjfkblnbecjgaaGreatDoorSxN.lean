/- Built-in functions that only compute; making and cutting slices; one function for all operations that are no calls of Go functions. -/
import Derived.Test.YthjfkblnbecjgaaGreatDoorSxM
set_option linter.unusedVariables false
namespace Go.Sx

def lenM (P : Program) (t : TypeId) (x : SV) : M SV :=
  match P.underlying t, x with
  | some .string, .raw (.string s) => pure (.i .i64 (.c s.size))
  | some (.array n _), _ => pure (.i .i64 (.c n))
  | some (.pointer a), _ => (match P.underlying a with
    | some (.array n _) => pure (.i .i64 (.c n))
    | _ => M.no 120)
  | some (.slice _), .nils => pure (.i .i64 (.c 0))
  | some (.slice _), .slc _ _ len _ => do
    need .geq len (.c 0)
    pure (.i .i64 len)
  | _, _ => M.no 121
def minmaxM (mx : Bool) (x y : SV) : M SV :=
  match x, y with
  | .i k a, .i _ b => do let z ← mkI (if mx then .mx a b else .mn a b); pure (.i k z)
  | _, _ => M.no 122
def builtinM (P : Program) (b : Builtin) (ts : Array TypeId) (args : List (Option SV)) : M SV :=
  match b, args with
  | .len, [some x] => (match ts[0]? with
    | some t => lenM P t x
    | none => M.no 123)
  | .min, [some x, some y] => minmaxM false x y
  | .max, [some x, some y] => minmaxM true x y
  | _, _ => M.no 124
/-- A block of numbers, its content given by a list's operation. -/
def newArr (ks : List CK) (o : LOp) (len : At) (elem : TypeId) : M SV := do
  let l ← mkL o
  fun h kk => kk (.ptr h.nb (.c 0)) { h with hp := (h.nb, .arr ks l len len elem) :: h.hp, nb := h.nb + 1 }
/-- The kinds of cells that are all 0. -/
def zeroKinds : List SV → Option (List CK)
  | [] => some []
  | .i k (.c 0) :: r => (zeroKinds r).map (.i k :: ·)
  | .b (.c 0) :: r => (zeroKinds r).map (.b :: ·)
  | _ => none
/-- One kind, if all are one. -/
def oneKind (ks : List CK) : List CK :=
  match ks with
  | k :: r => if r.all (fun x => decide (x = k)) then [k] else ks
  | [] => []
def makeSliceM (P : Program) (t : TypeId) (len cap : SV) : M SV :=
  match P.underlying t, len, cap with
  | some (.slice elem), .i _ a, .i _ b => (match sizeT P elem, zeroCellsT P elem, P.info? elem with
    | some s, some zs, some inf =>
      if a = b then (do
        need .geq a (.c 0)
        need .leq a (.c 1000000)
        if inf.bytes ≤ 1000 then
          match a with
          | .c n => if zs.length = s ∧ 0 < n.toNat * s then (do
              let p ← newBlk (repeatZ zs n.toNat) elem
              match p with
              | .ptr q o => pure (.slc q o a a)
              | _ => M.no 125) else M.no 126
          | a => if zs.length = s ∧ 0 < s then (match zeroKinds zs with
            | some ks => do
              need .gtr a (.c 0)
              let m ← mkI (.mul a (.c s))
              let p ← newArr (oneKind ks) (.rep m (.c 0)) m elem
              match p with
              | .ptr q o => pure (.slc q o a a)
              | _ => M.no 127
            | none => M.no 128) else M.no 128
        else M.no 129) else M.no 130
    | _, _, _ => M.no 131)
  | _, _, _ => M.no 132

section
variable {Φ : Phi} {C : Ctx} {ρ : Env} {h : H} {w : World} {P : Program}

theorem lenM_spec {t ty : TypeId} {ts : Array TypeId} {x : SV} {u : Value} (ht : ts[0]? = some t) (hx : SvIs ρ x u) : MSpec Φ C (lenM P t x) ρ h w (DoesV P w h (Builtin.len_ ts ty #[u])) := by
  unfold lenM
  split
  · rename_i s eu
    obtain rfl := hx.raw
    exact MSpec.ret ⟨rfl, rfl, _, (AtIs.c ρ s.size).svi, fun W => by simp [Builtin.len_, ht, run_underlying eu, goInt]⟩
  · rename_i n e eu
    exact MSpec.ret ⟨rfl, rfl, _, (AtIs.c ρ n).svi, fun W => by simp [Builtin.len_, ht, run_underlying eu, goInt]⟩
  · rename_i a eu
    split
    · rename_i n e eu'
      exact MSpec.ret ⟨rfl, rfl, _, (AtIs.c ρ n).svi, fun W => by simp [Builtin.len_, ht, run_underlying eu, run_underlying eu', goInt]⟩
    · exact MSpec.no
  · rename_i e eu
    obtain rfl := hx.nils
    exact MSpec.ret ⟨rfl, rfl, _, (AtIs.c ρ 0).svi, fun W => by simp [Builtin.len_, ht, run_underlying eu, goInt]⟩
  · rename_i e n o len cap eu
    obtain ⟨_, _, hl, _, rfl⟩ := hx.slc
    refine (need_spec hl (AtIs.c ρ 0)).bind ?_
    rintro _ ρ1 h1 w1 l1 ⟨rfl, hp1, c1⟩
    simp only [cmpB, decide_eq_true_eq] at c1
    refine MSpec.ret ⟨rfl, hp1, _, (hl.mono l1).svi, fun W => ?_⟩
    simp [Builtin.len_, ht, run_underlying eu, goInt, Int.toNat_of_nonneg c1]
  · exact MSpec.no

theorem minmaxM_spec {mx : Bool} {x y : SV} {u v : Value} {ts : Array TypeId} {ty : TypeId} (hx : SvIs ρ x u) (hy : SvIs ρ y v) :
    MSpec Φ C (minmaxM mx x y) ρ h w (DoesV P w h (if mx then Builtin.max_ ts ty #[u, v] else Builtin.min_ ts ty #[u, v])) := by
  unfold minmaxM
  split
  · rename_i k a k' b
    obtain ⟨ha, rfl⟩ := hx.int
    obtain ⟨hb, rfl⟩ := hy.int
    cases mx
    · simp only [Bool.false_eq_true, if_false]
      refine (mkI_ok (okB2 ha.1 hb.1 (.mn a b) rfl rfl)).bind ?_
      rintro z ρ1 h1 w1 l1 ⟨rfl, hp1, hz⟩
      simp only [IOp.den] at hz
      exact MSpec.ret ⟨rfl, hp1, _, hz.svi, fun W => run_min_int2 _ _ _ _ _ _ _⟩
    · simp only [if_true]
      refine (mkI_ok (okB2 ha.1 hb.1 (.mx a b) rfl rfl)).bind ?_
      rintro z ρ1 h1 w1 l1 ⟨rfl, hp1, hz⟩
      simp only [IOp.den] at hz
      exact MSpec.ret ⟨rfl, hp1, _, hz.svi, fun W => run_max_int2 _ _ _ _ _ _ _⟩
  · exact MSpec.no

def ArgsAre (ρ : Env) : List (Option SV) → List Value → Prop
  | [], [] => True
  | x :: r, v :: s => (∀ y, x = some y → SvIs ρ y v) ∧ ArgsAre ρ r s
  | _, _ => False

theorem builtinM_spec {b : Builtin} {ts : Array TypeId} {args : List (Option SV)} {vs : Array Value} {ty : TypeId} (ha : ArgsAre ρ args vs.toList) :
    MSpec Φ C (builtinM P b ts args) ρ h w fun sv ρ' h' w' => w' = w ∧ h'.hp = h.hp ∧ ∃ v, SvIs ρ' sv v ∧ ∀ (cs : Array Bool) (W : World), (builtin b ts ty cs vs).run P W = .ok (.value v) W := by
  obtain ⟨vs⟩ := vs
  simp only at ha
  unfold builtinM
  split
  · rename_i x
    match vs, ha with
    | [v], ha =>
      split
      · rename_i t et
        refine (lenM_spec (P := P) (ty := ty) et (ha.1 x rfl)).mono ?_
        rintro sv ρ' h' w' l ⟨rfl, hp, z, hz, hr⟩
        exact ⟨rfl, hp, z, hz, fun cs W => by simp [builtin, hr]⟩
      · exact MSpec.no
    | [], ha => exact ha.elim
    | _ :: _ :: _, ha => exact (ha.2).elim
  · rename_i x y
    match vs, ha with
    | [u, v], ha =>
      refine (minmaxM_spec (P := P) (mx := false) (ts := ts) (ty := ty) (ha.1 x rfl) (ha.2.1 y rfl)).mono ?_
      rintro sv ρ' h' w' l ⟨rfl, hp, z, hz, hr⟩
      simp only [Bool.false_eq_true, if_false] at hr
      exact ⟨rfl, hp, z, hz, fun cs W => by simp [builtin, hr]⟩
    | [], ha => exact ha.elim
    | [_], ha => exact (ha.2).elim
    | _ :: _ :: _ :: _, ha => exact (ha.2.2).elim
  · rename_i x y
    match vs, ha with
    | [u, v], ha =>
      refine (minmaxM_spec (P := P) (mx := true) (ts := ts) (ty := ty) (ha.1 x rfl) (ha.2.1 y rfl)).mono ?_
      rintro sv ρ' h' w' l ⟨rfl, hp, z, hz, hr⟩
      simp only [if_true] at hr
      exact ⟨rfl, hp, z, hz, fun cs W => by simp [builtin, hr]⟩
    | [], ha => exact ha.elim
    | [_], ha => exact (ha.2).elim
    | _ :: _ :: _ :: _, ha => exact (ha.2.2).elim
  · exact MSpec.no

theorem newArr_spec {ks : List CK} {o : LOp} {len : At} {elem : TypeId} {xs : List Int} (ho : o.okB ρ.is.length ρ.ls.length = true) (hxs : o.den ρ.is ρ.ls = xs) {n : Int} (hl : AtIs ρ len n) (hn : (xs.length : Int) = n) (h0 : n ≠ 0) :
    MSpec Φ C (newArr ks o len elem) ρ h w fun sv ρ' h' w' => SvIs ρ' sv (.pointer (some ⟨w.heap.size, 0, none⟩)) ∧ w' = w.alloc (.cells (cellsOf ks xs).toArray elem (0, 0)) := by
  unfold newArr
  refine (mkL_ok ho).bind ?_
  rintro l ρ1 h1 w1 l1 ⟨rfl, hp1, hL⟩
  rw [hxs] at hL
  have hl1 := hl.mono l1
  intro r kk hk
  have hat : (ρ1.pushB w1.heap.size).b h1.nb = (w1.heap.size, 0) := by rw [← r.nb]; exact pushB_at ρ1 _
  have le := Env.le_app ρ1 ⟨[], [], [(w1.heap.size, 0)]⟩
  have hL' : (ρ1.pushB w1.heap.size).ls.getD l [] = xs := (hL.mono le).2
  have hl' : At.den (ρ1.pushB w1.heap.size).is len = n := (hl1.mono le).2
  refine ⟨.ptr h1.nb (.c 0), ρ1.pushB w1.heap.size, _, _, Env.le_app _ _, r.alloc (b := .arr ks l len len elem) (.cells (cellsOf ks xs).toArray elem (0, 0)) ?_ ?_ ?_, ?_, ?_, rfl⟩
  · simp [Blk.phys, hat, hl', h0]
  · simp only [Blk.inB, Bool.and_eq_true, decide_eq_true_eq]; exact ⟨hL.1, hl1.1, hl1.1⟩
  · simp only [Blk.holds]
    rw [hL', hl', hat]
    refine ⟨hn, fun hz => absurd hz h0, fun _ => ⟨rfl, [], ?_, ?_⟩⟩
    · rw [List.append_nil]
      exact heap_alloc_new w1 _
    · simp [cellsOf_len, hn]
  · have hk' : Tree.den Φ (kk (SV.ptr h1.nb (At.c 0)) { h1 with hp := (h1.nb, .arr ks l len len elem) :: h1.hp, nb := h1.nb + 1 }) ρ1.is ρ1.ls := hk
    simpa [Env.pushB, Env.app] using hk'
  · refine ⟨by simp [SV.ok, Env.pushB, Env.app, r.nb, At.lt], ?_⟩
    simp only [SV.den, Env.at, hat]
    simp

theorem zeroKinds_ok : ∀ {zs : List SV} {ks : List CK}, zeroKinds zs = some ks → ks.length = zs.length ∧ ∀ ρ : Env, SV.dens ρ zs = ks.map (·.val 0)
  | [], ks, e => by cases e; exact ⟨rfl, fun ρ => rfl⟩
  | z :: r, ks, e => by
    unfold zeroKinds at e
    split at e
    · rename_i h; cases h
    · rename_i k r' h
      cases h
      cases er : zeroKinds r with
      | none => rw [er] at e; cases e
      | some q =>
        rw [er] at e; cases e
        have ih := zeroKinds_ok er
        exact ⟨by simp [ih.1], fun ρ => by simp [SV.dens, SV.den, ih.2, CK.val]⟩
    · rename_i r' h
      cases h
      cases er : zeroKinds r with
      | none => rw [er] at e; cases e
      | some q =>
        rw [er] at e; cases e
        have ih := zeroKinds_ok er
        exact ⟨by simp [ih.1], fun ρ => by simp [SV.dens, SV.den, ih.2, CK.val]⟩
    · cases e
theorem oneKind_cell (ks : List CK) (hk : 0 < ks.length) (j : Nat) (n : Int) : cellAt (oneKind ks) j n = cellAt ks j n := by
  unfold oneKind
  split
  · rename_i k r
    split
    · rename_i h
      simp only [cellAt, List.length_cons]
      have : ∀ i, i < (k :: r).length → (k :: r).getD i (.i .i64) = k := by
        intro i hi
        simp only [List.getD, List.getElem?_eq_getElem hi, Option.getD_some]
        rcases List.mem_cons.1 (List.getElem_mem hi) with hh | hh
        · exact hh
        · exact of_decide_eq_true (List.all_eq_true.1 h _ hh)
      rw [this (j % (r.length + 1)) (Nat.mod_lt _ (by simp))]
      simp [Nat.mod_one]
    · rfl
  · simp at hk
theorem oneKind_cells (ks : List CK) (hk : 0 < ks.length) (l : List Int) : cellsOf (oneKind ks) l = cellsOf ks l := by
  unfold cellsOf
  congr 1
  funext j n
  exact oneKind_cell ks hk j n
theorem zero_cells {z : Array Value} {ks : List CK} (hz : z = (ks.map (·.val 0)).toArray) (hk : 0 < ks.length) (m : Nat) :
    (Array.range m).map (fun i => z[i % z.size]!) = (cellsOf (oneKind ks) (List.replicate m 0)).toArray := by
  rw [oneKind_cells ks hk]
  apply Array.ext'
  apply List.ext_getElem?
  intro i
  by_cases hi : i < m
  · have hm : i % ks.length < ks.length := Nat.mod_lt _ hk
    simp [hi, hz, cellsOf, cellAt, hm]
  · rw [List.getElem?_eq_none (by simpa using hi), List.getElem?_eq_none (by simpa [cellsOf] using hi)]

theorem wrap_small {k : IntKind} {x : Int} (h0 : 0 ≤ x) (h1 : x ≤ 1000000) (hk : k = .i64) : k.wrap x = x := by
  subst hk; exact wrap_in .i64 x (by simp [IntKind.min, IntKind.signed, IntKind.bits]; omega) (by simp; omega)

theorem makeSlice_run {t elem : TypeId} {k k' : IntKind} {n s : Nat} {inf : TypeInfo} {z : Value} (eu : P.underlying t = some (.slice elem)) (es : sizeT P elem = some s) (ez : zeroT P elem = some z)
    (ei : P.info? elem = some inf) (hb : inf.bytes ≤ 1000) (hn : n ≤ 1000000) (hpos : 0 < n * s) :
    (Instr.makeSlice t (.int k n) (.int k' n)).run P w = .ok (.slice (some ⟨w.heap.size, 0, none⟩) n n) (w.alloc (.cells ((Array.range (n * s)).map (fun i => z.cells[i % z.cells.size]!)) elem (0, 0))) := by
  have hw : IntKind.i64.wrap (n : Int) = n := wrap_small (by omega) (by omega) rfl
  have h0 : ¬ ((n : Int) < 0) := by omega
  have h2 : ¬ ((inf.bytes : Int) * (n : Int) > 2 ^ 48) := by
    have : (inf.bytes : Int) * (n : Int) ≤ 1000 * 1000000 := Int.mul_le_mul (by omega) (by omega) (by omega) (by omega)
    omega
  have h3 : ¬ ((n : Int) > (n : Int)) := by omega
  have hns : ¬ n * s = 0 := by omega
  simp only [Instr.makeSlice, Sem.run_bind, run_underlying eu, Result.andThen_ok, asInt, asIntOf, Sem.run_pure, typeInfo, run_program, ei, hw]
  simp only [h0, h2, h3, decide_false, Bool.or_self, Bool.false_eq_true, if_false, Sem.run_pure, Result.andThen_ok, Sem.run_bind, run_askRoom, run_sizeOf' es, Int.toNat_natCast, hns, run_zeroValue' ez]
  simp [newRow]

theorem makeSliceM_spec {t : TypeId} {x y : SV} {u v : Value} (hx : SvIs ρ x u) (hy : SvIs ρ y v) : MSpec Φ C (makeSliceM P t x y) ρ h w (Does P (Instr.makeSlice t u v) w) := by
  unfold makeSliceM
  split
  · rename_i elem k a k' b eu
    obtain ⟨ha, rfl⟩ := hx.int
    obtain ⟨hb, rfl⟩ := hy.int
    split
    · rename_i s zs inf es ezs ei
      obtain ⟨z, ez, hzo, hzc⟩ := zeroCellsT_is ezs w
      split
      · rename_i hab
        subst hab
        refine (need_spec ha (AtIs.c ρ 0)).bind ?_
        rintro _ ρ1 h1 w1 l1 ⟨rfl, hp1, c1⟩
        refine (need_spec (ha.mono l1) (AtIs.c ρ1 1000000)).bind ?_
        rintro _ ρ2 h2 w2 l2 ⟨rfl, hp2, c2⟩
        simp only [cmpB, decide_eq_true_eq] at c1 c2
        have l12 := Env.le_trans l1 l2
        have ha2 := ha.mono l12
        obtain ⟨m, hm⟩ := Int.eq_ofNat_of_zero_le c1
        rw [hm] at ha2 c2 ⊢
        split
        · rename_i hbytes
          split
          · rename_i _ _ n
            have hn : n = (m : Int) := by have := ha2.2; simpa using this
            subst hn
            split
            · rename_i hc
              simp only [Int.toNat_natCast] at hc ⊢
              have hs0 : 0 < s := by
                rcases Nat.eq_zero_or_pos s with h0 | h0
                · subst h0; omega
                · exact h0
              refine (newBlk_spec (repeatZ_ok (hzo ρ2) m)).bind ?_
              rintro p ρ3 h3 w3 l3 ⟨hp3, rfl⟩
              split
              · rename_i q o
                obtain ⟨hq, ho, hat⟩ := hp3.ptr
                have hat' : ρ3.at q o = ⟨w2.heap.size, 0, none⟩ := by simpa using hat.symm
                refine MSpec.ret ⟨_, ⟨by simp only [SV.ok, hq, ho.1, decide_true]; rfl, rfl⟩, ?_⟩
                rw [makeSlice_run eu es ez ei hbytes (by omega) hc.2, hzc ρ2, repeatZ_dens hc.1 hs0]
                simp [SV.den, hat']
              · exact MSpec.no
            · exact MSpec.no
          · split
            · rename_i hzs
              split
              · rename_i ks ek
                have hks := zeroKinds_ok ek
                refine (need_spec ha2 (AtIs.c ρ2 0)).bind ?_
                rintro _ ρ3 h3 w3 l3 ⟨rfl, hp3, c3⟩
                simp only [cmpB, decide_eq_true_eq] at c3
                have ha3 := ha2.mono l3
                refine (mul_spec ha3 (AtIs.c ρ3 s)).bind ?_
                rintro mm ρ4 h4 w4 l4 ⟨rfl, hp4, hmm⟩
                have hm0 : 0 < m * s := Nat.mul_pos (by omega) hzs.2
                have hks0 : 0 < ks.length := by rw [hks.1, hzs.1]; exact hzs.2
                have ems : (m : Int) * (s : Int) = ((m * s : Nat) : Int) := (Int.natCast_mul m s).symm
                refine (newArr_spec (xs := List.replicate (m * s) 0) (by simp only [LOp.okB, hmm.1, Bool.true_and]; rfl) (by simp only [LOp.den, hmm.2, ems, Int.toNat_natCast]; rfl) hmm (by simp) (by omega)).bind ?_
                rintro p ρ5 h5 w5 l5 ⟨hp5, rfl⟩
                split
                · rename_i q o
                  obtain ⟨hq, ho, hat⟩ := hp5.ptr
                  have hat' : ρ5.at q o = ⟨w4.heap.size, 0, none⟩ := by simpa using hat.symm
                  have ha5 := (ha3.mono l4).mono l5
                  refine MSpec.ret ⟨_, ⟨by simp only [SV.ok, hq, ho.1, ha5.1, decide_true]; rfl, rfl⟩, ?_⟩
                  rw [makeSlice_run eu es ez ei hbytes (by omega) hm0, zero_cells (by rw [hzc ρ5, hks.2]) hks0]
                  simp [SV.den, hat', ha5.2]
                · exact MSpec.no
              · exact MSpec.no
            · exact MSpec.no
        · exact MSpec.no
      · exact MSpec.no
    · exact MSpec.no
  · exact MSpec.no
end
end Go.Sx
