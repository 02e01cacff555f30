/- Built-in functions that only compute; making and cutting slices; one function for all operations that are no calls of Go functions. -/
import Derived.Test.YtgkinefofnlnlaaDoorSxM
set_option linter.unusedVariables false
namespace Go.Sx

def lenM (P : Program) (t : TypeId) (x : SV) : M SV :=
  match P.underlying t, x with
  | some .string, .raw (.string s) => pure (.i .i64 (.c s.size))
  | some (.array n _), _ => pure (.i .i64 (.c n))
  | some (.pointer a), _ => (match P.underlying a with
    | some (.array n _) => pure (.i .i64 (.c n))
    | _ => M.no 120)
  | some (.slice _), .nils => pure (.i .i64 (.c 0))
  | some (.slice _), .slc _ _ len _ => do
    need .geq len (.c 0)
    pure (.i .i64 len)
  | _, _ => M.no 121
def minmaxM (mx : Bool) (x y : SV) : M SV :=
  match x, y with
  | .i k a, .i _ b => do let z ← mkI (if mx then .mx a b else .mn a b); pure (.i k z)
  | _, _ => M.no 122
def builtinM (P : Program) (b : Builtin) (ts : Array TypeId) (args : List (Option SV)) : M SV :=
  match b, args with
  | .len, [some x] => (match ts[0]? with
    | some t => lenM P t x
    | none => M.no 123)
  | .min, [some x, some y] => minmaxM false x y
  | .max, [some x, some y] => minmaxM true x y
  | _, _ => M.no 124
/-- A block of integers, its content given by a list's operation. -/
def newArr (k : IntKind) (o : LOp) (len : At) (elem : TypeId) : M SV := do
  let l ← mkL o
  fun h kk => kk (.ptr h.nb (.c 0)) { h with hp := (h.nb, .arr [k] l len elem) :: h.hp, nb := h.nb + 1 }
def makeSliceM (P : Program) (t : TypeId) (len cap : SV) : M SV :=
  match P.underlying t, len, cap with
  | some (.slice elem), .i _ a, .i _ b => (match sizeT P elem, zeroCellsT P elem, P.info? elem with
    | some s, some zs, some inf =>
      if a = b then (do
        need .geq a (.c 0)
        need .leq a (.c 1000000)
        if inf.bytes ≤ 1000 then
          match a, zs, s with
          | .c n, zs, s => if zs.length = s ∧ 0 < n.toNat * s then (do
              let p ← newBlk (repeatZ zs n.toNat) elem
              match p with
              | .ptr q o => pure (.slc q o a a)
              | _ => M.no 125) else M.no 126
          | a, [.i k (.c 0)], 1 => do
            need .gtr a (.c 0)
            let p ← newArr k (.rep a (.c 0)) a elem
            match p with
            | .ptr q o => pure (.slc q o a a)
            | _ => M.no 127
          | _, _, _ => M.no 128
        else M.no 129) else M.no 130
    | _, _, _ => M.no 131)
  | _, _, _ => M.no 132

section
variable {Φ : Phi} {C : Ctx} {ρ : Env} {h : H} {w : World} {P : Program}

theorem lenM_spec {t ty : TypeId} {ts : Array TypeId} {x : SV} {u : Value} (ht : ts[0]? = some t) (hx : SvIs ρ x u) : MSpec Φ C (lenM P t x) ρ h w (DoesV P w h (Builtin.len_ ts ty #[u])) := by
  unfold lenM
  split
  · rename_i s eu
    obtain rfl := hx.raw
    exact MSpec.ret ⟨rfl, rfl, _, (AtIs.c ρ s.size).svi, fun W => by simp [Builtin.len_, ht, run_underlying eu, goInt]⟩
  · rename_i n e eu
    exact MSpec.ret ⟨rfl, rfl, _, (AtIs.c ρ n).svi, fun W => by simp [Builtin.len_, ht, run_underlying eu, goInt]⟩
  · rename_i a eu
    split
    · rename_i n e eu'
      exact MSpec.ret ⟨rfl, rfl, _, (AtIs.c ρ n).svi, fun W => by simp [Builtin.len_, ht, run_underlying eu, run_underlying eu', goInt]⟩
    · exact MSpec.no
  · rename_i e eu
    obtain rfl := hx.nils
    exact MSpec.ret ⟨rfl, rfl, _, (AtIs.c ρ 0).svi, fun W => by simp [Builtin.len_, ht, run_underlying eu, goInt]⟩
  · rename_i e n o len cap eu
    obtain ⟨_, _, hl, _, rfl⟩ := hx.slc
    refine (need_spec hl (AtIs.c ρ 0)).bind ?_
    rintro _ ρ1 h1 w1 l1 ⟨rfl, hp1, c1⟩
    simp only [cmpB, decide_eq_true_eq] at c1
    refine MSpec.ret ⟨rfl, hp1, _, (hl.mono l1).svi, fun W => ?_⟩
    simp [Builtin.len_, ht, run_underlying eu, goInt, Int.toNat_of_nonneg c1]
  · exact MSpec.no

theorem minmaxM_spec {mx : Bool} {x y : SV} {u v : Value} {ts : Array TypeId} {ty : TypeId} (hx : SvIs ρ x u) (hy : SvIs ρ y v) :
    MSpec Φ C (minmaxM mx x y) ρ h w (DoesV P w h (if mx then Builtin.max_ ts ty #[u, v] else Builtin.min_ ts ty #[u, v])) := by
  unfold minmaxM
  split
  · rename_i k a k' b
    obtain ⟨ha, rfl⟩ := hx.int
    obtain ⟨hb, rfl⟩ := hy.int
    cases mx
    · simp only [Bool.false_eq_true, if_false]
      refine (mkI_ok (okB2 ha.1 hb.1 (.mn a b) rfl rfl)).bind ?_
      rintro z ρ1 h1 w1 l1 ⟨rfl, hp1, hz⟩
      simp only [IOp.den] at hz
      exact MSpec.ret ⟨rfl, hp1, _, hz.svi, fun W => run_min_int2 _ _ _ _ _ _ _⟩
    · simp only [if_true]
      refine (mkI_ok (okB2 ha.1 hb.1 (.mx a b) rfl rfl)).bind ?_
      rintro z ρ1 h1 w1 l1 ⟨rfl, hp1, hz⟩
      simp only [IOp.den] at hz
      exact MSpec.ret ⟨rfl, hp1, _, hz.svi, fun W => run_max_int2 _ _ _ _ _ _ _⟩
  · exact MSpec.no

def ArgsAre (ρ : Env) : List (Option SV) → List Value → Prop
  | [], [] => True
  | x :: r, v :: s => (∀ y, x = some y → SvIs ρ y v) ∧ ArgsAre ρ r s
  | _, _ => False

theorem builtinM_spec {b : Builtin} {ts : Array TypeId} {args : List (Option SV)} {vs : Array Value} {ty : TypeId} (ha : ArgsAre ρ args vs.toList) :
    MSpec Φ C (builtinM P b ts args) ρ h w fun sv ρ' h' w' => w' = w ∧ h'.hp = h.hp ∧ ∃ v, SvIs ρ' sv v ∧ ∀ (cs : Array Bool) (W : World), (builtin b ts ty cs vs).run P W = .ok (.value v) W := by
  obtain ⟨vs⟩ := vs
  simp only at ha
  unfold builtinM
  split
  · rename_i x
    match vs, ha with
    | [v], ha =>
      split
      · rename_i t et
        refine (lenM_spec (P := P) (ty := ty) et (ha.1 x rfl)).mono ?_
        rintro sv ρ' h' w' l ⟨rfl, hp, z, hz, hr⟩
        exact ⟨rfl, hp, z, hz, fun cs W => by simp [builtin, hr]⟩
      · exact MSpec.no
    | [], ha => exact ha.elim
    | _ :: _ :: _, ha => exact (ha.2).elim
  · rename_i x y
    match vs, ha with
    | [u, v], ha =>
      refine (minmaxM_spec (P := P) (mx := false) (ts := ts) (ty := ty) (ha.1 x rfl) (ha.2.1 y rfl)).mono ?_
      rintro sv ρ' h' w' l ⟨rfl, hp, z, hz, hr⟩
      simp only [Bool.false_eq_true, if_false] at hr
      exact ⟨rfl, hp, z, hz, fun cs W => by simp [builtin, hr]⟩
    | [], ha => exact ha.elim
    | [_], ha => exact (ha.2).elim
    | _ :: _ :: _ :: _, ha => exact (ha.2.2).elim
  · rename_i x y
    match vs, ha with
    | [u, v], ha =>
      refine (minmaxM_spec (P := P) (mx := true) (ts := ts) (ty := ty) (ha.1 x rfl) (ha.2.1 y rfl)).mono ?_
      rintro sv ρ' h' w' l ⟨rfl, hp, z, hz, hr⟩
      simp only [if_true] at hr
      exact ⟨rfl, hp, z, hz, fun cs W => by simp [builtin, hr]⟩
    | [], ha => exact ha.elim
    | [_], ha => exact (ha.2).elim
    | _ :: _ :: _ :: _, ha => exact (ha.2.2).elim
  · exact MSpec.no

theorem newArr_spec {k : IntKind} {o : LOp} {len : At} {elem : TypeId} {xs : List Int} (ho : o.okB ρ.is.length ρ.ls.length = true) (hxs : o.den ρ.is ρ.ls = xs) {n : Int} (hl : AtIs ρ len n) (hn : (xs.length : Int) = n) :
    MSpec Φ C (newArr k o len elem) ρ h w fun sv ρ' h' w' => SvIs ρ' sv (.pointer (some ⟨w.heap.size, 0, none⟩)) ∧ w' = w.alloc (.cells (cellsOf [k] xs).toArray elem (0, 0)) := by
  unfold newArr
  refine (mkL_ok ho).bind ?_
  rintro l ρ1 h1 w1 l1 ⟨rfl, hp1, hL⟩
  rw [hxs] at hL
  have hl1 := hl.mono l1
  intro r kk hk
  refine ⟨.ptr h1.nb (.c 0), ρ1.pushB w1.heap.size, _, _, Env.le_app _ _, r.alloc (b := .arr [k] l len elem) (.cells (cellsOf [k] xs).toArray elem (0, 0)) (fun σ => ?_), ?_, ?_, rfl⟩
  · have e1 : (ρ1.pushB w1.heap.size).app σ = ρ1.app ((⟨[], [], [(w1.heap.size, 0)]⟩ : Env).app σ) := Env.app_assoc _ _ _
    have hat : ((ρ1.pushB w1.heap.size).app σ).b h1.nb = (w1.heap.size, 0) := by
      rw [← r.nb, Env.b_app (by simp [Env.pushB, Env.app]), pushB_at]
    have le := Env.le_trans (Env.le_app ρ1 ⟨[], [], [(w1.heap.size, 0)]⟩) (Env.le_app _ σ)
    have hL' := hL.mono le
    have hl' := hl1.mono le
    simp only [BlkOk]
    rw [hat]
    refine ⟨by rw [← r.nb]; simp [Env.pushB, Env.app], hL'.1, hl'.1, rfl, .inl r.frame.size, ?_, ?_⟩
    · have : ((ρ1.pushB w1.heap.size).app σ).ls.getD l [] = xs := hL'.2
      rw [this]
      exact heap_alloc_new w1 _
    · have : ((ρ1.pushB w1.heap.size).app σ).ls.getD l [] = xs := hL'.2
      rw [this]
      have : At.den ((ρ1.pushB w1.heap.size).app σ).is len = n := hl'.2
      rw [this]; exact hn
  · have hk' : Tree.den Φ (kk (SV.ptr h1.nb (At.c 0)) { h1 with hp := (h1.nb, .arr [k] l len elem) :: h1.hp, nb := h1.nb + 1 }) ρ1.is ρ1.ls := hk
    simpa [Env.pushB, Env.app] using hk'
  · refine ⟨by simp [SV.ok, Env.pushB, Env.app, r.nb, At.lt], ?_⟩
    simp only [SV.den, Env.at]
    rw [← r.nb, pushB_at]
    simp

theorem wrap_small {k : IntKind} {x : Int} (h0 : 0 ≤ x) (h1 : x ≤ 1000000) (hk : k = .i64) : k.wrap x = x := by
  subst hk; exact wrap_in .i64 x (by simp [IntKind.min, IntKind.signed, IntKind.bits]; omega) (by simp; omega)

theorem makeSlice_run {t elem : TypeId} {k k' : IntKind} {n s : Nat} {inf : TypeInfo} {z : Value} (eu : P.underlying t = some (.slice elem)) (es : sizeT P elem = some s) (ez : zeroT P elem = some z)
    (ei : P.info? elem = some inf) (hb : inf.bytes ≤ 1000) (hn : n ≤ 1000000) (hpos : 0 < n * s) :
    (Instr.makeSlice t (.int k n) (.int k' n)).run P w = .ok (.slice (some ⟨w.heap.size, 0, none⟩) n n) (w.alloc (.cells ((Array.range (n * s)).map (fun i => z.cells[i % z.cells.size]!)) elem (0, 0))) := by
  have hw : IntKind.i64.wrap (n : Int) = n := wrap_small (by omega) (by omega) rfl
  have h0 : ¬ ((n : Int) < 0) := by omega
  have h2 : ¬ ((inf.bytes : Int) * (n : Int) > 2 ^ 48) := by
    have : (inf.bytes : Int) * (n : Int) ≤ 1000 * 1000000 := Int.mul_le_mul (by omega) (by omega) (by omega) (by omega)
    omega
  have h3 : ¬ ((n : Int) > (n : Int)) := by omega
  have hns : ¬ n * s = 0 := by omega
  simp only [Instr.makeSlice, Sem.run_bind, run_underlying eu, Result.andThen_ok, asInt, asIntOf, Sem.run_pure, typeInfo, run_program, ei, hw]
  simp only [h0, h2, h3, decide_false, Bool.or_self, Bool.false_eq_true, if_false, Sem.run_pure, Result.andThen_ok, Sem.run_bind, run_askRoom, run_sizeOf' es, Int.toNat_natCast, hns, run_zeroValue' ez]
  simp [newRow]

theorem makeSliceM_spec {t : TypeId} {x y : SV} {u v : Value} (hx : SvIs ρ x u) (hy : SvIs ρ y v) : MSpec Φ C (makeSliceM P t x y) ρ h w (Does P (Instr.makeSlice t u v) w) := by
  unfold makeSliceM
  split
  · rename_i elem k a k' b eu
    obtain ⟨ha, rfl⟩ := hx.int
    obtain ⟨hb, rfl⟩ := hy.int
    split
    · rename_i s zs inf es ezs ei
      obtain ⟨z, ez, hzo, hzc⟩ := zeroCellsT_is ezs w
      split
      · rename_i hab
        subst hab
        refine (need_spec ha (AtIs.c ρ 0)).bind ?_
        rintro _ ρ1 h1 w1 l1 ⟨rfl, hp1, c1⟩
        refine (need_spec (ha.mono l1) (AtIs.c ρ1 1000000)).bind ?_
        rintro _ ρ2 h2 w2 l2 ⟨rfl, hp2, c2⟩
        simp only [cmpB, decide_eq_true_eq] at c1 c2
        have l12 := Env.le_trans l1 l2
        have ha2 := ha.mono l12
        obtain ⟨m, hm⟩ := Int.eq_ofNat_of_zero_le c1
        rw [hm] at ha2 c2 ⊢
        split
        · rename_i hbytes
          split
          · rename_i _ _ n
            have hn : n = (m : Int) := by have := ha2.2; simpa using this
            subst hn
            split
            · rename_i hc
              simp only [Int.toNat_natCast] at hc ⊢
              have hs0 : 0 < s := by
                rcases Nat.eq_zero_or_pos s with h0 | h0
                · subst h0; omega
                · exact h0
              refine (newBlk_spec (repeatZ_ok (hzo ρ2) m)).bind ?_
              rintro p ρ3 h3 w3 l3 ⟨hp3, rfl⟩
              split
              · rename_i q o
                obtain ⟨hq, ho, hat⟩ := hp3.ptr
                have hat' : ρ3.at q o = ⟨w2.heap.size, 0, none⟩ := by simpa using hat.symm
                refine MSpec.ret ⟨_, ⟨by simp only [SV.ok, hq, ho.1, decide_true]; rfl, rfl⟩, ?_⟩
                rw [makeSlice_run eu es ez ei hbytes (by omega) hc.2, hzc ρ2, repeatZ_dens hc.1 hs0]
                simp [SV.den, hat']
              · exact MSpec.no
            · exact MSpec.no
          · rename_i kk _
            refine (need_spec ha2 (AtIs.c ρ2 0)).bind ?_
            rintro _ ρ3 h3 w3 l3 ⟨rfl, hp3, c3⟩
            simp only [cmpB, decide_eq_true_eq] at c3
            have ha3 := ha2.mono l3
            refine (newArr_spec (xs := List.replicate m 0) (by simp only [LOp.okB, ha3.1, Bool.true_and]; rfl) (by simp [LOp.den, ha3.2]) ha3 (by simp)).bind ?_
            rintro p ρ4 h4 w4 l4 ⟨hp4, rfl⟩
            split
            · rename_i q o
              obtain ⟨hq, ho, hat⟩ := hp4.ptr
              have hat' : ρ4.at q o = ⟨w3.heap.size, 0, none⟩ := by simpa using hat.symm
              have ha4 := ha3.mono l4
              refine MSpec.ret ⟨_, ⟨by simp only [SV.ok, hq, ho.1, ha4.1, decide_true]; rfl, rfl⟩, ?_⟩
              rw [makeSlice_run eu es ez ei hbytes (by omega) (by omega)]
              have hd : (SV.dens ρ4 [SV.i kk (.c 0)]) = [Value.int kk 0] := by simp [SV.dens, SV.den]
              have : (Array.range (m * 1)).map (fun i => z.cells[i % z.cells.size]!) = (cellsOf [kk] (List.replicate m 0)).toArray := by
                rw [hzc ρ4, hd]
                apply Array.ext'
                apply List.ext_getElem?
                intro i
                by_cases hi : i < m
                · simp [hi, cellsOf, cellAt, Nat.mod_one]
                · rw [List.getElem?_eq_none (by simpa using hi), List.getElem?_eq_none (by simpa [cellsOf] using hi)]
              rw [this]
              simp [SV.den, hat', ha4.2]
            · exact MSpec.no
          · exact MSpec.no
        · exact MSpec.no
      · exact MSpec.no
    · exact MSpec.no
  · exact MSpec.no
end
end Go.Sx
