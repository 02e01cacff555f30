/- One cell read, one cell written. -/
import Derived.Test.YthjfkblnbecjgaaGreatDoorSxE
set_option linter.unusedVariables false
namespace Go.Sx

def residue (h : H) (m : Nat) : Nat → At → Option Nat
  | _, .c n => if 0 ≤ n then some (n.toNat % m) else none
  | 0, .v _ => none
  | f + 1, .v i =>
    match h.defs.find? (·.1 == i) with
    | some (_, .mul _ (.c n)) => if n % (m : Int) = 0 then some 0 else none
    | some (_, .add x y) => match residue h m f x, residue h m f y with
      | some r, some s => some ((r + s) % m)
      | _, _ => none
    | _ => none
theorem residue_ok {C : Ctx} {ρ : Env} {h : H} {w : World} (fc : Facts C ρ h w) {m : Nat} : ∀ (f : Nat) (a : At) (r : Nat), residue h m f a = some r → (a.den ρ.is) % (m : Int) = r
  | f, .c n, r, e => by
    unfold residue at e
    split at e
    · rename_i h0
      cases e
      obtain ⟨k, rfl⟩ := Int.eq_ofNat_of_zero_le h0
      simp
    · cases e
  | 0, .v i, r, e => by cases e
  | f + 1, .v i, r, e => by
    unfold residue at e
    split at e
    · rename_i j x n ed
      have hm := List.mem_of_find?_eq_some ed
      have hi : j = i := by simpa using List.find?_some ed
      have hd := fc.defs _ hm
      simp only [IOp.den, At.den_c] at hd
      rw [hi] at hd
      split at e
      · rename_i hn
        cases e
        rw [At.den_v, hd, Int.mul_emod, hn]
        simp
      · cases e
    · rename_i j x y ed
      have hm := List.mem_of_find?_eq_some ed
      have hi : j = i := by simpa using List.find?_some ed
      have hd := fc.defs _ hm
      simp only [IOp.den] at hd
      rw [hi] at hd
      split at e
      · rename_i r1 s1 e1 e2
        cases e
        have g1 := residue_ok fc f x r1 e1
        have g2 := residue_ok fc f y s1 e2
        rw [At.den_v, hd, Int.add_emod, g1, g2]
        simp
      · cases e
    · cases e

def kindAt (h : H) (ks : List CK) (o : At) : Option CK :=
  if ks.length = 1 then ks[0]? else (residue h ks.length 5 o).bind fun r => ks[r]?
theorem kindAt_ok {C : Ctx} {ρ : Env} {h : H} {w : World} (fc : Facts C ρ h w) {ks : List CK} {o : At} {k : CK} (e : kindAt h ks o = some k) (h0 : 0 ≤ o.den ρ.is) :
    ks.getD ((o.den ρ.is).toNat % ks.length) (.i .i64) = k := by
  unfold kindAt at e
  split at e
  · rename_i h1
    rw [h1, Nat.mod_one, List.getD, e]; rfl
  · cases er : residue h ks.length 5 o with
    | none => rw [er] at e; cases e
    | some r =>
      rw [er] at e
      have := residue_ok fc 5 o r er
      have hr : (o.den ρ.is).toNat % ks.length = r := by
        obtain ⟨k, hk⟩ := Int.eq_ofNat_of_zero_le h0
        rw [hk] at this ⊢
        simp only [Int.toNat_natCast]
        exact_mod_cast this
      simp only [Option.bind_some] at e
      rw [hr, List.getD, e]; rfl
/-- A number that is known. -/
def H.fixed (h : H) (a : At) : Option Int :=
  match h.range a with
  | some (l, u) => if l = u then some l else none
  | none => none
theorem fixed_ok {C : Ctx} {ρ : Env} {h : H} {w : World} (f : Facts C ρ h w) {a : At} {n : Int} (e : h.fixed a = some n) : a.den ρ.is = n := by
  unfold H.fixed at e
  have := range_ok f a
  split at e
  · rename_i l u er
    rw [er] at this
    simp only [inR] at this
    split at e
    · cases e; omega
    · cases e
  · cases e

def rdNum (n l : Nat) (ks : List CK) (len : At) (o : At) : M SV := fun h k => (do
  need .geq o (.c 0)
  need .lss o len
  match kindAt h ks o with
  | some kd => do let a ← mkI (.get l o); pure (kd.sv a)
  | none => M.no 5 : M SV) h k
def meet (r : Rng) (lo hi : Int) : Int × Int :=
  match r with
  | some (l, u) => (imax l lo, imin u hi)
  | none => (lo, hi)
/-- A range that is known of a number. -/
def knowI (a : At) (lo hi : Int) : M Unit := fun h k => k () (h.setR a (meet (h.range a) lo hi))
/-- A number of a read-only stretch: its kind tells its range. -/
def rdRo (n l : Nat) (ks : List CK) (len : At) (o : At) : M SV := fun h k => (do
  need .geq o (.c 0)
  need .lss o len
  match kindAt h ks o with
  | some kd => do
    let a ← mkI (.get l o)
    knowI a kd.lo kd.hi
    pure (kd.sv a)
  | none => M.no 5 : M SV) h k
def rdCell (n : Nat) (o : At) : M SV := fun h k =>
  match h.blk n with
  | some (.cells xs _ _) =>
    match h.fixed o with
    | some j => if 0 ≤ j then (match xs[j.toNat]? with | some x => k x h | none => .fail 2) else .fail 3
    | none => .fail 4
  | some (.arr ks l len _ _) => rdNum n l ks len o h k
  | some (.ro ks l len) => rdRo n l ks len o h k
  | _ => .fail 6

theorem oks_get {ρ : Env} : ∀ {xs : List SV} {j : Nat} {x : SV}, SV.oks ρ.is.length ρ.bs.length xs = true → xs[j]? = some x → SvIs ρ x (SV.den ρ x) ∧ (SV.dens ρ xs)[j]? = some (SV.den ρ x)
  | [], j, x, _, e => by simp at e
  | y :: ys, 0, x, h, e => by
    simp only [List.getElem?_cons_zero, Option.some.injEq] at e
    subst e
    simp only [SV.oks, Bool.and_eq_true] at h
    exact ⟨⟨h.1, rfl⟩, by simp [SV.dens]⟩
  | y :: ys, j + 1, x, h, e => by
    simp only [List.getElem?_cons_succ] at e
    simp only [SV.oks, Bool.and_eq_true] at h
    have := oks_get (ρ := ρ) h.2 e
    exact ⟨this.1, by simpa [SV.dens] using this.2⟩

theorem cellsOf_get {ks : List CK} {l : List Int} {j : Nat} (hj : j < l.length) : (cellsOf ks l)[j]? = some (cellAt ks j (l.getD j 0)) := by
  simp [cellsOf, List.getElem?_mapIdx, List.getD, List.getElem?_eq_getElem hj]
theorem cellsOf_len {ks : List CK} {l : List Int} : (cellsOf ks l).length = l.length := by simp [cellsOf]
theorem CK.sv_is {ρ : Env} {k : CK} {a : At} {n : Int} (h : AtIs ρ a n) : SvIs ρ (k.sv a) (k.val n) := by
  cases k <;> exact ⟨by simpa [CK.sv, SV.ok] using h.1, by simp [CK.sv, CK.val, SV.den, h.2]⟩
theorem HasCells.cell {w : World} {p : Nat} {vs : List Value} {sz : Int} {el : TypeId} (h : HasCells w p vs sz el) {j : Nat} {v : Value} (hv : vs[j]? = some v) : w.cell? ⟨p, j, none⟩ = some v := by
  obtain ⟨rest, h, _⟩ := h
  have hj : j < vs.length := by
    rcases Nat.lt_or_ge j vs.length with hh | hh
    · exact hh
    · rw [List.getElem?_eq_none hh] at hv; cases hv
  simp only [World.cell?, h, Option.isSome_none, Bool.false_eq_true, if_false]
  simp [List.getElem?_append_left hj, hv]

section
variable {Φ : Phi} {C : Ctx} {ρ : Env} {h : H} {w : World}
theorem Frame.cell {C : Ctx} {w : World} (f : Frame C w) {a : Addr} {v : Value} (h1 : a.block < C.w0.heap.size) (h2 : a.block ∉ C.own) (hc : C.w0.cell? a = some v) : w.cell? a = some v := by
  unfold World.cell? at *
  rw [f.old _ h1 h2]; exact hc
theorem RepH.fact (r : RepH C ρ h w) : Facts C ρ h w := by have := r.facts .nil; rwa [Env.app_nil] at this

/-- Worlds in which block n stands as the state says. -/
structure KW (C : Ctx) (ρ : Env) (h : H) (n : Nat) (W : World) : Prop where
  old : ∀ b, b < C.w0.heap.size → b ∉ C.own → W.heap[b]? = C.w0.heap[b]?
  blk : ∀ b, h.blk n = some b → b.holds C ρ W n
theorem KW.self (r : RepH C ρ h w) (n : Nat) : KW C ρ h n w := ⟨r.frame.old, fun b hb => (r.fact.heap _ (blk_mem hb)).holds⟩
theorem KW.mono {ρ' : Env} {h' : H} {n : Nat} {W : World} (r : RepH C ρ h w) (l : ρ.le ρ') (hp : h'.blk n = h.blk n) (k : KW C ρ h n W) : KW C ρ' h' n W := by
  refine ⟨k.old, fun b hb => ?_⟩
  rw [hp] at hb
  have hok := r.fact.heap _ (blk_mem hb)
  obtain ⟨τ, rfl⟩ := l
  exact (Blk.holds_app hok.lt hok.inB).2 (k.blk b hb)
theorem KW.back {ρ' : Env} {h' : H} {n : Nat} {W : World} (r : RepH C ρ h w) (l : ρ.le ρ') (hp : h'.blk n = h.blk n) (k : KW C ρ' h' n W) : KW C ρ h n W := by
  refine ⟨k.old, fun b hb => ?_⟩
  have hok := r.fact.heap _ (blk_mem hb)
  rw [← hp] at hb
  obtain ⟨τ, rfl⟩ := l
  exact (Blk.holds_app hok.lt hok.inB).1 (k.blk b hb)
theorem KW.cell {n : Nat} {W : World} (k : KW C ρ h n W) {a : Addr} {v : Value} (h1 : a.block < C.w0.heap.size) (h2 : a.block ∉ C.own) (hc : C.w0.cell? a = some v) : W.cell? a = some v := by
  unfold World.cell? at *
  rw [k.old _ h1 h2]; exact hc
theorem blk_of_hp {h h' : H} (e : h'.hp = h.hp) (n : Nat) : h'.blk n = h.blk n := by unfold H.blk; rw [e]

/-- The numbers' road of a read. -/
theorem rdInt_spec {K : World → Prop} {l : Nat} {ks : List CK} {len : At} {o : At} {x : Int} (n : Nat) (ho : AtIs ρ o x) (hl : l < ρ.ls.length) (hlen : len.lt ρ.is.length = true)
    (hlen' : ((ρ.ls.getD l []).length : Int) = len.den ρ.is)
    (hcell : ∀ j, j < (ρ.ls.getD l []).length → ∀ W, K W → W.cell? ⟨(ρ.b n).1, (ρ.b n).2 + j, none⟩ = some (cellAt ks j ((ρ.ls.getD l []).getD j 0))) :
    MSpec Φ C (rdNum n l ks len o) ρ h w fun sv ρ' h' w' => w' = w ∧ h'.hp = h.hp ∧ ∃ v, SvIs ρ' sv v ∧ ∀ W, K W → W.cell? (ρ.at n o) = some v := by
  refine MSpec.rep fun r => ?_
  unfold rdNum
  refine (need_spec ho (AtIs.c ρ 0)).bind ?_
  rintro _ ρ1 h1 w1 l1 ⟨rfl, hp1, c1⟩
  refine (need_spec (ho.mono l1) (AtIs.mono ⟨hlen, rfl⟩ l1)).bind ?_
  rintro _ ρ2 h2 w2 l2 ⟨rfl, hp2, c2⟩
  simp only [cmpB, decide_eq_true_eq] at c1 c2
  have l12 := Env.le_trans l1 l2
  cases ek : kindAt h ks o with
  | none => exact MSpec.no
  | some kd =>
    have hk := kindAt_ok r.fact ek (by rw [ho.val]; omega)
    have hok : (IOp.get l o).okB ρ2.is.length ρ2.ls.length = true := by
      simp only [IOp.okB, IOp.atoms, List.all_cons, List.all_nil, Bool.and_true, Bool.and_eq_true, decide_eq_true_eq]
      exact ⟨(ho.mono l12).1, by have := (Env.le_len l12).2.1; omega⟩
    refine (mkI_ok hok).bind ?_
    rintro a ρ3 h3 w3 l3 ⟨rfl, hp3, ha⟩
    have hll : ρ2.ls.getD l [] = ρ.ls.getD l [] := (LIs.mono ⟨hl, rfl⟩ l12).2
    simp only [IOp.den, (ho.mono l12).val, hll] at ha
    refine MSpec.ret ⟨rfl, by rw [hp3, hp2, hp1], kd.val ((ρ.ls.getD l []).getD x.toNat 0), CK.sv_is ha, fun W hW => ?_⟩
    have := hcell x.toNat (by omega) W hW
    unfold Env.at
    rw [ho.val, this]
    unfold cellAt
    rw [ho.val] at hk
    rw [hk]

theorem knowI_spec {a : At} {x lo hi : Int} (ha : AtIs ρ a x) (h1 : lo ≤ x) (h2 : x ≤ hi) : MSpec Φ C (knowI a lo hi) ρ h w fun _ ρ' h' w' => w' = w ∧ h'.hp = h.hp ∧ ρ' = ρ := by
  intro r k hk
  have mx : ∀ p q z : Int, p ≤ z → q ≤ z → imax p q ≤ z := fun p q z h1 h2 => by unfold imax; split <;> omega
  have mn : ∀ p q z : Int, z ≤ p → z ≤ q → z ≤ imin p q := fun p q z h1 h2 => by unfold imin; split <;> omega
  refine ⟨(), ρ, _, w, Env.le_refl ρ, r.alt (by simp) (fun σ => setR_facts (r.facts σ) ?_), hk, rfl, by simp, rfl⟩
  rw [ha.app σ]
  have hr := range_ok (r.facts σ) a
  rw [ha.app σ] at hr
  unfold meet
  split
  · rename_i l u e
    rw [e] at hr
    exact ⟨mx _ _ _ hr.1 h1, mn _ _ _ hr.2 h2⟩
  · exact ⟨h1, h2⟩
theorem rdRo_spec {K : World → Prop} {l : Nat} {ks : List CK} {len : At} {o : At} {x : Int} (n : Nat) (ho : AtIs ρ o x) (hl : l < ρ.ls.length) (hlen : len.lt ρ.is.length = true)
    (hlen' : ((ρ.ls.getD l []).length : Int) = len.den ρ.is)
    (htyp : ∀ j, j < (ρ.ls.getD l []).length → (ks.getD (j % ks.length) (.i .i64)).lo ≤ (ρ.ls.getD l []).getD j 0 ∧ (ρ.ls.getD l []).getD j 0 ≤ (ks.getD (j % ks.length) (.i .i64)).hi)
    (hcell : ∀ j, j < (ρ.ls.getD l []).length → ∀ W, K W → W.cell? ⟨(ρ.b n).1, (ρ.b n).2 + j, none⟩ = some (cellAt ks j ((ρ.ls.getD l []).getD j 0))) :
    MSpec Φ C (rdRo n l ks len o) ρ h w fun sv ρ' h' w' => w' = w ∧ h'.hp = h.hp ∧ ∃ v, SvIs ρ' sv v ∧ ∀ W, K W → W.cell? (ρ.at n o) = some v := by
  refine MSpec.rep fun r => ?_
  unfold rdRo
  refine (need_spec ho (AtIs.c ρ 0)).bind ?_
  rintro _ ρ1 h1 w1 l1 ⟨rfl, hp1, c1⟩
  refine (need_spec (ho.mono l1) (AtIs.mono ⟨hlen, rfl⟩ l1)).bind ?_
  rintro _ ρ2 h2 w2 l2 ⟨rfl, hp2, c2⟩
  simp only [cmpB, decide_eq_true_eq] at c1 c2
  have l12 := Env.le_trans l1 l2
  cases ek : kindAt h ks o with
  | none => exact MSpec.no
  | some kd =>
    have hk := kindAt_ok r.fact ek (by rw [ho.val]; omega)
    have hok : (IOp.get l o).okB ρ2.is.length ρ2.ls.length = true := by
      simp only [IOp.okB, IOp.atoms, List.all_cons, List.all_nil, Bool.and_true, Bool.and_eq_true, decide_eq_true_eq]
      exact ⟨(ho.mono l12).1, by have := (Env.le_len l12).2.1; omega⟩
    refine (mkI_ok hok).bind ?_
    rintro a ρ3 h3 w3 l3 ⟨rfl, hp3, ha⟩
    have hll : ρ2.ls.getD l [] = ρ.ls.getD l [] := (LIs.mono ⟨hl, rfl⟩ l12).2
    simp only [IOp.den, (ho.mono l12).val, hll] at ha
    have ht := htyp x.toNat (by omega)
    rw [ho.val] at hk
    rw [hk] at ht
    refine (knowI_spec ha ht.1 ht.2).bind ?_
    rintro _ ρ4 h4 w4 l4 ⟨rfl, hp4, rfl⟩
    refine MSpec.ret ⟨rfl, by rw [hp4, hp3, hp2, hp1], kd.val ((ρ.ls.getD l []).getD x.toNat 0), CK.sv_is ha, fun W hW => ?_⟩
    have := hcell x.toNat (by omega) W hW
    unfold Env.at
    rw [ho.val, this]
    unfold cellAt
    rw [hk]

theorem rdCell_spec2 {n : Nat} {o : At} {x : Int} (ho : AtIs ρ o x) :
    MSpec Φ C (rdCell n o) ρ h w fun sv ρ' h' w' => w' = w ∧ h'.hp = h.hp ∧ ∃ v, SvIs ρ' sv v ∧ ∀ W, KW C ρ h n W → W.cell? (ρ.at n o) = some v := by
  refine MSpec.rep fun r => ?_
  intro hh k hk
  unfold rdCell at hk
  have fc := r.fact
  split at hk
  · rename_i xs sz el eb
    have hb := fc.heap _ (blk_mem eb)
    have hin := hb.inB
    simp only [Blk.inB, Bool.and_eq_true] at hin
    split at hk
    · rename_i j ej
      have hj := fixed_ok fc ej
      rw [ho.val] at hj
      subst hj
      split at hk
      · split at hk
        · rename_i hj y ey
          have hg := oks_get (ρ := ρ) hin.1 ey
          refine ⟨y, ρ, h, w, Env.le_refl ρ, hh, hk, rfl, rfl, _, hg.1, fun W hW => ?_⟩
          have hh2 := hW.blk _ eb
          simp only [Blk.holds] at hh2
          have := hh2.2.cell hg.2
          unfold Env.at
          rw [hh2.1, ho.val, Nat.zero_add]
          exact this
        · exact hk.elim
      · exact hk.elim
    · exact hk.elim
  · rename_i ks l len sz el eb
    have hb := fc.heap _ (blk_mem eb)
    have hin := hb.inB
    simp only [Blk.inB, Bool.and_eq_true, decide_eq_true_eq] at hin
    refine rdInt_spec (K := KW C ρ h n) n ho hin.1 hin.2.1 hb.holds.1 (fun j hj W hW => ?_) hh k hk
    have hh2 := hW.blk _ eb
    simp only [Blk.holds] at hh2
    have hz : sz.den ρ.is ≠ 0 := fun hz => by rw [hh2.2.1 hz] at hj; simp at hj
    obtain ⟨h0, hc⟩ := hh2.2.2 hz
    rw [h0, Nat.zero_add]
    exact hc.cell (cellsOf_get hj)
  · rename_i ks l len eb
    have hb := fc.heap _ (blk_mem eb)
    have hin := hb.inB
    have hh2 := hb.holds
    simp only [Blk.inB, Bool.and_eq_true, decide_eq_true_eq] at hin
    simp only [Blk.holds] at hh2
    exact rdRo_spec (K := KW C ρ h n) n ho hin.1 hin.2 hh2.2.2.2.1 hh2.2.2.2.2 (fun j hj W hW => hW.cell hh2.1 hh2.2.1 (hh2.2.2.1 j hj)) hh k hk
  · exact hk.elim
theorem rdCell_spec {n : Nat} {o : At} {x : Int} (ho : AtIs ρ o x) :
    MSpec Φ C (rdCell n o) ρ h w fun sv ρ' h' w' => w' = w ∧ h'.hp = h.hp ∧ ∃ v, SvIs ρ' sv v ∧ w.cell? (ρ.at n o) = some v :=
  MSpec.rep fun r => (rdCell_spec2 ho).mono (by
    rintro sv ρ' h' w' l ⟨e, hp, v, hv, hc⟩
    exact ⟨e, hp, v, hv, hc w (KW.self r n)⟩)
end

/-! ### Writing -/
def SV.one : SV → Bool
  | .agg _ | .tup _ => false
  | .raw v => v.oneCell'
  | _ => true
theorem SV.one_den {ρ : Env} {x : SV} (h : x.one = true) : (SV.den ρ x).oneCell' = true := by
  cases x
  case vec n len cap =>
    rw [SV.den]
    split <;> rfl
  all_goals simp_all [SV.one, SV.den, Value.oneCell']
def SV.num : SV → Option (CK × At)
  | .i k a => some (.i k, a)
  | .b a => some (.b, a)
  | _ => none
theorem SV.num_is {ρ : Env} {x : SV} {v : Value} {q : CK × At} (hx : SvIs ρ x v) (e : x.num = some q) : AtIs ρ q.2 (q.2.den ρ.is) ∧ v = q.1.val (q.2.den ρ.is) := by
  cases x <;> simp only [SV.num] at e <;> try (cases e; done)
  all_goals
    cases e
    exact ⟨⟨by simpa [SV.ok] using hx.1, rfl⟩, by rw [← hx.2]; rfl⟩

def wrCell (n : Nat) (o : At) (x : SV) : M Unit := fun h k =>
  match h.blk n with
  | some (.cells xs sz el) =>
    match h.fixed o with
    | some j => if 0 ≤ j && j.toNat < xs.length && x.one then k () (h.setBlk n (.cells (xs.set j.toNat x) sz el)) else .fail 7
    | none => .fail 8
  | some (.arr ks l len sz el) =>
    match x.num with
    | some (kd, a) => (do
        need .geq o (.c 0)
        need .lss o len
        if kindAt h ks o = some kd then (do
          let l' ← mkL (.set l o a)
          fun h k => k () (h.setBlk n (.arr ks l' len sz el))) else M.no 9 : M Unit) h k
    | none => .fail 10
  | _ => .fail 11

theorem oks_set {ni nb : Nat} : ∀ {xs : List SV} {j : Nat} {x : SV}, SV.oks ni nb xs = true → SV.ok ni nb x = true → SV.oks ni nb (xs.set j x) = true
  | [], _, _, h, _ => h
  | y :: ys, 0, x, h, e => by
    simp only [SV.oks, Bool.and_eq_true, List.set_cons_zero] at *
    exact ⟨e, h.2⟩
  | y :: ys, j + 1, x, h, e => by
    simp only [SV.oks, Bool.and_eq_true, List.set_cons_succ] at *
    exact ⟨h.1, oks_set h.2 e⟩
theorem cellsOf_set {ks : List CK} {l : List Int} {j : Nat} {n : Int} {k : CK} (hk : ks.getD (j % ks.length) (.i .i64) = k) :
    cellsOf ks (l.set j n) = (cellsOf ks l).set j (k.val n) := by
  apply List.ext_getElem?
  intro i
  simp only [cellsOf, List.getElem?_mapIdx, List.getElem?_set, List.length_mapIdx]
  by_cases e : j = i
  · subst e
    simp only [if_true]
    split
    · simp [cellAt]
      have : ks[j % ks.length]?.getD (.i .i64) = k := by simpa [List.getD] using hk
      rw [this]
    · rename_i hlt
      simp
  · simp [e]

section
variable {Φ : Phi} {C : Ctx} {ρ : Env} {h : H} {w : World}
theorem setCell_heap (w : World) (p o : Nat) (v : Value) {c : Array Value} {t : TypeId} (hb : w.heap[p]? = some (.cells c t (0, 0))) :
    (w.setCell ⟨p, o, none⟩ v).heap[p]? = some (.cells (c.setIfInBounds o v) t (0, 0)) := by
  simp [World.setCell, Array.getElem?_modify, hb]
theorem setCell_other (w : World) (p o : Nat) (v : Value) {q : Nat} (h : q ≠ p) : (w.setCell ⟨p, o, none⟩ v).heap[q]? = w.heap[q]? := by
  simp [World.setCell, Array.getElem?_modify, Ne.symm h]
theorem dens_set {ρ : Env} : ∀ {xs : List SV} {j : Nat} {x : SV}, SV.dens ρ (xs.set j x) = (SV.dens ρ xs).set j (SV.den ρ x)
  | [], _, _ => rfl
  | y :: ys, 0, x => rfl
  | y :: ys, j + 1, x => by simp [SV.dens, dens_set]
theorem HasCells.set {w : World} {p : Nat} {vs : List Value} {sz : Int} {el : TypeId} (h : HasCells w p vs sz el) {j : Nat} (hj : j < vs.length) (v : Value) :
    HasCells (w.setCell ⟨p, j, none⟩ v) p (vs.set j v) sz el := by
  obtain ⟨rest, h, hs⟩ := h
  refine ⟨rest, ?_, by simpa using hs⟩
  rw [setCell_heap _ _ _ _ h]
  have : ((vs ++ rest).toArray.setIfInBounds j v) = (vs.set j v ++ rest).toArray := by
    simp [List.set_append_left _ _ hj]
  rw [this]

/-- What is asked of a store, and what it does. -/
def Stores (w : World) (a : Addr) (v : Value) (w' : World) : Prop :=
  (∃ u, w.cell? a = some u) ∧ w.frozen? a = false ∧ v.oneCell' = true ∧ w' = w.setCell a v
theorem HasCells.frozen {w : World} {p : Nat} {vs : List Value} {sz : Int} {el : TypeId} (h : HasCells w p vs sz el) (j : Nat) : w.frozen? ⟨p, j, none⟩ = false := by
  obtain ⟨rest, h, _⟩ := h
  simp [World.frozen?, h]
theorem CK.val_one (k : CK) (n : Int) : (k.val n).oneCell' = true := by cases k <;> rfl

theorem wrCell_spec {n : Nat} {o : At} {z : Int} {x : SV} {v : Value} (ho : AtIs ρ o z) (hx : SvIs ρ x v) :
    MSpec Φ C (wrCell n o x) ρ h w fun _ ρ' h' w' => Stores w (ρ.at n o) v w' := by
  refine MSpec.rep fun r => ?_
  intro hh k hk
  unfold wrCell at hk
  have fc := r.fact
  split at hk
  · rename_i xs sz el eb
    have hb := fc.heap _ (blk_mem eb)
    have hin := hb.inB
    have hh2 := hb.holds
    simp only [Blk.inB, Bool.and_eq_true] at hin
    simp only [Blk.holds] at hh2
    split at hk
    · rename_i j ej
      have hj := fixed_ok fc ej
      rw [ho.val] at hj
      subst hj
      split at hk
      · rename_i hc
        simp only [Bool.and_eq_true, decide_eq_true_eq] at hc
        have hat : ρ.at n o = ⟨(ρ.b n).1, z.toNat, none⟩ := by simp [Env.at, hh2.1, ho.val]
        have hv : v.oneCell' = true := by rw [← hx.2]; exact SV.one_den hc.2
        have hl : z.toNat < (SV.dens ρ xs).length := by rw [SV.dens_eq]; simpa using hc.1.2
        refine ⟨(), ρ, _, w.setCell ⟨(ρ.b n).1, z.toNat, none⟩ v, Env.le_refl ρ, ?_, hk, ?_⟩
        · refine r.setBlk eb rfl (by simp) (fun q hq => setCell_other _ _ _ _ (by simpa [Blk.phys] using hq)) rfl rfl ?_ ?_
          · simp only [Blk.inB, Bool.and_eq_true]
            exact ⟨oks_set hin.1 hx.1, hin.2⟩
          · refine ⟨hh2.1, ?_⟩
            rw [dens_set, hx.2]
            exact hh2.2.set hl v
        · rw [hat]
          refine ⟨?_, hh2.2.frozen _, hv, rfl⟩
          exact ⟨(SV.dens ρ xs)[z.toNat], hh2.2.cell (by simp [hl])⟩
      · exact hk.elim
    · exact hk.elim
  · rename_i ks l len sz el eb
    have hb := fc.heap _ (blk_mem eb)
    have hin := hb.inB
    have hh2 := hb.holds
    simp only [Blk.inB, Bool.and_eq_true, decide_eq_true_eq] at hin
    simp only [Blk.holds] at hh2
    split at hk
    · rename_i kd a en
      obtain ⟨ha, hv⟩ := SV.num_is hx en
      simp only at ha hv
      refine ((need_spec ho (AtIs.c ρ 0)).bind (S := fun _ ρ' h' w' => Stores w (ρ.at n o) v w') ?_) hh k hk
      rintro _ ρ1 h1 w1 l1 ⟨rfl, hp1, c1⟩
      refine (need_spec (ho.mono l1) (AtIs.mono ⟨hin.2.1, rfl⟩ l1)).bind ?_
      rintro _ ρ2 h2 w2 l2 ⟨rfl, hp2, c2⟩
      simp only [cmpB, decide_eq_true_eq] at c1 c2
      have l12 := Env.le_trans l1 l2
      split
      · rename_i ek
        have hkd := kindAt_ok fc ek (by rw [ho.val]; omega)
        rw [ho.val] at hkd
        have hok : (LOp.set l o a).okB ρ2.is.length ρ2.ls.length = true := by
          simp only [LOp.okB, Bool.and_eq_true, decide_eq_true_eq]
          exact ⟨by have := (Env.le_len l12).2.1; omega, (ho.mono l12).1, (ha.mono l12).1⟩
        refine (mkL_ok hok).bind ?_
        rintro l' ρ3 h3 w3 l3 ⟨rfl, hp3, hL⟩
        have l13 := Env.le_trans l12 l3
        have hll : ρ2.ls.getD l [] = ρ.ls.getD l [] := (LIs.mono ⟨hin.1, rfl⟩ l12).2
        simp only [LOp.den, (ho.mono l12).val, (ha.mono l12).val, hll] at hL
        intro r3 k3 hk3
        have eb3 : h3.blk n = some (.arr ks l len sz el) := by
          unfold H.blk at eb ⊢; rw [hp3, hp2, hp1]; exact eb
        have hz : z.toNat < (ρ.ls.getD l []).length := by have := hh2.1; omega
        have hz0 : sz.den ρ.is ≠ 0 := fun hz0 => by rw [hh2.2.1 hz0] at hz; simp at hz
        obtain ⟨ho0, hc⟩ := hh2.2.2 hz0
        have hat : ρ.at n o = ⟨(ρ.b n).1, z.toNat, none⟩ := by simp [Env.at, ho0, ho.val]
        have hp3' : ρ3.b n = ρ.b n := by obtain ⟨τ, rfl⟩ := l13; exact Env.b_app hb.lt
        have hsz3 : sz.den ρ3.is = sz.den ρ.is := (AtIs.mono ⟨hin.2.2, rfl⟩ l13).2
        have hlen3 : len.den ρ3.is = len.den ρ.is := (AtIs.mono ⟨hin.2.1, rfl⟩ l13).2
        have hcl : z.toNat < (cellsOf ks (ρ.ls.getD l [])).length := by rw [cellsOf_len]; exact hz
        have hphys : (Blk.arr ks l len sz el).phys ρ3 n = [(ρ.b n).1] := by simp [Blk.phys, hsz3, hz0, hp3']
        refine ⟨(), ρ3, _, w3.setCell ⟨(ρ.b n).1, z.toNat, none⟩ v, Env.le_refl ρ3, ?_, hk3, ?_⟩
        · refine r3.setBlk eb3 rfl (by simp) (fun q hq => setCell_other _ _ _ _ (by rw [hphys] at hq; simpa using hq)) rfl rfl ?_ ?_
          · have L := Env.le_len l13
            simp only [Blk.inB, Bool.and_eq_true, decide_eq_true_eq]
            exact ⟨hL.1, At.lt_mono hin.2.1 L.1, At.lt_mono hin.2.2 L.1⟩
          · refine ⟨?_, fun hz1 => absurd (hsz3 ▸ hz1) hz0, fun _ => ⟨by rw [hp3']; exact ho0, ?_⟩⟩
            · rw [hL.2, hlen3]; simpa using hh2.1
            · rw [hL.2, hp3', hsz3, cellsOf_set hkd, ← hv]
              exact hc.set hcl v
        · rw [hat]
          exact ⟨⟨_, hc.cell (cellsOf_get hz)⟩, hc.frozen _, by rw [hv]; exact CK.val_one _ _, rfl⟩
      · exact MSpec.no
    · exact hk.elim
  · exact hk.elim
end

/-! ### Case by case -/
def caseAt (a : At) (lo : Int) : Nat → M Int
  | 0 => M.no 12
  | n + 1 => do
    let c ← mkI (.cmp .eql a (.c lo))
    let b ← dec c
    if b then pure lo else caseAt a (lo + 1) n
/-- Which number it is. -/
def splitAt (a : At) : M Int := fun h k =>
  match h.fixed a with
  | some n => k n h
  | none => match h.range a with
    | some (l, u) => if u - l ≤ 64 then caseAt a l ((u - l).toNat + 1) h k else .fail 13
    | none => .fail 14
section
variable {Φ : Phi} {C : Ctx} {ρ : Env} {h : H} {w : World}
theorem caseAt_spec (n : Nat) {a : At} {lo x : Int} (ha : AtIs ρ a x) : MSpec Φ C (caseAt a lo n) ρ h w fun r ρ' h' w' => w' = w ∧ h'.hp = h.hp ∧ r = x := by
  induction n generalizing ρ h w lo with
  | zero => exact MSpec.no
  | succ n ih =>
    unfold caseAt
    refine (mkI_ok (by simp only [IOp.okB, IOp.atoms, List.all_cons, List.all_nil, Bool.and_true, ha.1]; rfl)).bind ?_
    rintro c ρ1 h1 w1 l1 ⟨rfl, hp1, hc⟩
    refine (dec_spec hc).bind ?_
    rintro b ρ2 h2 w2 l2 ⟨rfl, hp2, hb⟩
    simp only [IOp.den, ha.val, At.den_c, cmpB] at hb
    cases b with
    | true =>
      refine MSpec.ret ⟨rfl, by rw [hp2, hp1], ?_⟩
      cases hq : (x == lo) <;> simp_all [b2i]
    | false =>
      refine (ih (ha.mono (Env.le_trans l1 l2))).mono ?_
      rintro r ρ' h' w' l ⟨e, hp, hr⟩
      exact ⟨e, by rw [hp, hp2, hp1], hr⟩
theorem splitAt_spec {a : At} {x : Int} (ha : AtIs ρ a x) : MSpec Φ C (splitAt a) ρ h w fun r ρ' h' w' => w' = w ∧ h'.hp = h.hp ∧ r = x := by
  refine MSpec.rep fun r0 => ?_
  intro r k hk
  unfold splitAt at hk
  split at hk
  · rename_i n en
    exact ⟨n, ρ, h, w, Env.le_refl ρ, r, hk, rfl, rfl, by rw [← ha.val]; exact (fixed_ok r0.fact en).symm⟩
  · split at hk
    · split at hk
      · exact caseAt_spec _ ha r k hk
      · exact hk.elim
    · exact hk.elim

/-- The cells of a block as numbers. -/
def numsOf : List SV → Option (List (CK × At))
  | [] => some []
  | x :: xs => match x.num, numsOf xs with
    | some q, some r => some (q :: r)
    | _, _ => none
theorem numsOf_is {ρ : Env} : ∀ {xs : List SV} {qs : List (CK × At)}, SV.oks ρ.is.length ρ.bs.length xs = true → numsOf xs = some qs →
    qs.length = xs.length ∧ (∀ q ∈ qs, q.2.lt ρ.is.length = true) ∧ SV.dens ρ xs = qs.map fun q => q.1.val (q.2.den ρ.is)
  | [], qs, _, e => by
    cases e
    exact ⟨rfl, (fun q hq => by cases hq), rfl⟩
  | x :: xs, qs, h, e => by
    unfold numsOf at e
    split at e
    · rename_i q r e1 e2
      cases e
      simp only [SV.oks, Bool.and_eq_true] at h
      have ih := numsOf_is h.2 e2
      have hx := SV.num_is (ρ := ρ) ⟨h.1, rfl⟩ e1
      refine ⟨by simp [ih.1], fun p hp => ?_, by simp only [SV.dens, List.map_cons, ih.2.2, hx.2]⟩
      rcases List.mem_cons.1 hp with rfl | hp
      · exact hx.1.1
      · exact ih.2.1 p hp
    · cases e
def fitsPeriod (ks : List CK) (p : Nat) : Bool := decide (0 < p) && (decide (p ≤ ks.length) && (List.range ks.length).all fun j => decide (ks[j]? = ks[j % p]?))
/-- The least stretch that is repeated. -/
def period (ks : List CK) : List CK :=
  match (List.range (ks.length + 1)).find? fun p => fitsPeriod ks p with
  | some p => ks.take p
  | none => ks
theorem period_cell {ks : List CK} {j : Nat} (hj : j < ks.length) (n : Int) : cellAt (period ks) j n = cellAt ks j n := by
  unfold period
  split
  · rename_i p ep
    have := List.find?_some ep
    simp only [fitsPeriod, Bool.and_eq_true, decide_eq_true_eq] at this
    obtain ⟨h0, hp, hall⟩ := this
    have hjp := of_decide_eq_true (List.all_eq_true.1 hall j (List.mem_range.2 hj))
    have hm : j % p < p := Nat.mod_lt _ h0
    have e1 : (ks.take p).length = p := by simp [hp]
    unfold cellAt
    rw [e1, Nat.mod_eq_of_lt hj]
    congr 1
    simp only [List.getD]
    rw [List.getElem?_take, if_pos hm, ← hjp]
  · rfl
theorem period_cells {ks : List CK} {l : List Int} (h : l.length ≤ ks.length) : cellsOf (period ks) l = cellsOf ks l := by
  apply List.ext_getElem?
  intro i
  simp only [cellsOf, List.getElem?_mapIdx]
  by_cases hi : i < l.length
  · simp only [List.getElem?_eq_getElem hi, Option.map_some]
    rw [period_cell (by omega)]
  · rw [List.getElem?_eq_none (by omega)]; rfl
theorem nums_cells {is : List Int} (qs : List (CK × At)) : cellsOf (qs.map (·.1)) (qs.map fun q => q.2.den is) = qs.map fun q => q.1.val (q.2.den is) := by
  apply List.ext_getElem?
  intro i
  simp only [cellsOf, List.getElem?_mapIdx, List.getElem?_map]
  by_cases hi : i < qs.length
  · simp [cellAt, Nat.mod_eq_of_lt hi, hi]
  · rw [List.getElem?_eq_none (by omega)]; rfl

/-- An index into a block: where the block's cells are no numbers, it must be known which one it is. -/
def idxAt (n : Nat) (a : At) : M At := fun h k =>
  match h.fixed a with
  | some j => k (.c j) h
  | none => match h.blk n with
    | some (.cells xs _ _) => if (numsOf xs).isSome then k a h else splitAt a h fun j => k (.c j)
    | _ => k a h
theorem idxAt_spec {n : Nat} {a : At} {x : Int} (ha : AtIs ρ a x) : MSpec Φ C (idxAt n a) ρ h w fun b ρ' h' w' => w' = w ∧ h'.hp = h.hp ∧ AtIs ρ' b x := by
  refine MSpec.rep fun r0 => ?_
  intro r k hk
  unfold idxAt at hk
  split at hk
  · rename_i j ej
    have := fixed_ok r0.fact ej
    rw [ha.val] at this
    subst this
    exact ⟨_, ρ, h, w, Env.le_refl ρ, r, hk, rfl, rfl, AtIs.c ρ _⟩
  · split at hk
    · split at hk
      · exact ⟨_, ρ, h, w, Env.le_refl ρ, r, hk, rfl, rfl, ha⟩
      · obtain ⟨j, ρ1, h1, w1, l1, r1, d1, e1, hp1, hj⟩ := splitAt_spec ha r _ hk
        subst hj
        exact ⟨_, ρ1, h1, w1, l1, r1, d1, e1, hp1, AtIs.c ρ1 _⟩
    · exact ⟨_, ρ, h, w, Env.le_refl ρ, r, hk, rfl, rfl, ha⟩
end

end Go.Sx
