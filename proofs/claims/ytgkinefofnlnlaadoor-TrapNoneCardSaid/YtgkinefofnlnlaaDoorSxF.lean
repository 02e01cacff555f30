/- One cell read, one cell written. -/
import Derived.Test.YtgkinefofnlnlaaDoorSxE
set_option linter.unusedVariables false
namespace Go.Sx

def residue (h : H) (m : Nat) : Nat → At → Option Nat
  | _, .c n => if 0 ≤ n then some (n.toNat % m) else none
  | 0, .v _ => none
  | f + 1, .v i =>
    match h.defs.find? (·.1 == i) with
    | some (_, .mul _ (.c n)) => if n % (m : Int) = 0 then some 0 else none
    | some (_, .add x y) => match residue h m f x, residue h m f y with
      | some r, some s => some ((r + s) % m)
      | _, _ => none
    | _ => none
theorem residue_ok {C : Ctx} {ρ : Env} {h : H} {w : World} (fc : Facts C ρ h w) {m : Nat} : ∀ (f : Nat) (a : At) (r : Nat), residue h m f a = some r → (a.den ρ.is) % (m : Int) = r
  | f, .c n, r, e => by
    unfold residue at e
    split at e
    · rename_i h0
      cases e
      obtain ⟨k, rfl⟩ := Int.eq_ofNat_of_zero_le h0
      simp
    · cases e
  | 0, .v i, r, e => by cases e
  | f + 1, .v i, r, e => by
    unfold residue at e
    split at e
    · rename_i j x n ed
      have hm := List.mem_of_find?_eq_some ed
      have hi : j = i := by simpa using List.find?_some ed
      have hd := fc.defs _ hm
      simp only [IOp.den, At.den_c] at hd
      rw [hi] at hd
      split at e
      · rename_i hn
        cases e
        rw [At.den_v, hd, Int.mul_emod, hn]
        simp
      · cases e
    · rename_i j x y ed
      have hm := List.mem_of_find?_eq_some ed
      have hi : j = i := by simpa using List.find?_some ed
      have hd := fc.defs _ hm
      simp only [IOp.den] at hd
      rw [hi] at hd
      split at e
      · rename_i r1 s1 e1 e2
        cases e
        have g1 := residue_ok fc f x r1 e1
        have g2 := residue_ok fc f y s1 e2
        rw [At.den_v, hd, Int.add_emod, g1, g2]
        simp
      · cases e
    · cases e

def kindAt (h : H) (ks : List IntKind) (o : At) : Option IntKind :=
  if ks.length = 1 then ks[0]? else (residue h ks.length 5 o).bind fun r => ks[r]?
theorem kindAt_ok {C : Ctx} {ρ : Env} {h : H} {w : World} (fc : Facts C ρ h w) {ks : List IntKind} {o : At} {k : IntKind} (e : kindAt h ks o = some k) (h0 : 0 ≤ o.den ρ.is) :
    ks.getD ((o.den ρ.is).toNat % ks.length) .i64 = k := by
  unfold kindAt at e
  split at e
  · rename_i h1
    rw [h1, Nat.mod_one, List.getD, e]; rfl
  · cases er : residue h ks.length 5 o with
    | none => rw [er] at e; cases e
    | some r =>
      rw [er] at e
      have := residue_ok fc 5 o r er
      have hr : (o.den ρ.is).toNat % ks.length = r := by
        obtain ⟨k, hk⟩ := Int.eq_ofNat_of_zero_le h0
        rw [hk] at this ⊢
        simp only [Int.toNat_natCast]
        exact_mod_cast this
      simp only [Option.bind_some] at e
      rw [hr, List.getD, e]; rfl

def rdCell (n : Nat) (o : At) : M SV := fun h k =>
  match h.blk n with
  | some (.cells xs _) =>
    match o with
    | .c j => if 0 ≤ j then (match xs[j.toNat]? with | some x => k x h | none => .fail 2) else .fail 3
    | .v _ => .fail 4
  | some (.arr ks l len _) => (show M SV from do need .geq o (.c 0); need .lss o len; match kindAt h ks o with | some kd => (do let a ← mkI (.get l o); pure (SV.i kd a)) | none => M.no 5) h k
  | some (.ro ks l len) => (show M SV from do need .geq o (.c 0); need .lss o len; match kindAt h ks o with | some kd => (do let a ← mkI (.get l o); pure (SV.i kd a)) | none => M.no 5) h k
  | none => .fail 6

theorem oks_get {ρ : Env} : ∀ {xs : List SV} {j : Nat} {x : SV}, SV.oks ρ.is.length ρ.bs.length xs = true → xs[j]? = some x → SvIs ρ x (SV.den ρ x) ∧ (SV.dens ρ xs)[j]? = some (SV.den ρ x)
  | [], j, x, _, e => by simp at e
  | y :: ys, 0, x, h, e => by
    simp only [List.getElem?_cons_zero, Option.some.injEq] at e
    subst e
    simp only [SV.oks, Bool.and_eq_true] at h
    exact ⟨⟨h.1, rfl⟩, by simp [SV.dens]⟩
  | y :: ys, j + 1, x, h, e => by
    simp only [List.getElem?_cons_succ] at e
    simp only [SV.oks, Bool.and_eq_true] at h
    have := oks_get (ρ := ρ) h.2 e
    exact ⟨this.1, by simpa [SV.dens] using this.2⟩

theorem cellsOf_get {ks : List IntKind} {l : List Int} {j : Nat} (hj : j < l.length) : (cellsOf ks l)[j]? = some (cellAt ks j (l.getD j 0)) := by
  simp [cellsOf, List.getElem?_mapIdx, List.getD, List.getElem?_eq_getElem hj]

section
variable {Φ : Phi} {C : Ctx} {ρ : Env} {h : H} {w : World}
theorem Frame.cell {C : Ctx} {w : World} (f : Frame C w) {a : Addr} {v : Value} (h1 : a.block < C.w0.heap.size) (h2 : a.block ∉ C.own) (hc : C.w0.cell? a = some v) : w.cell? a = some v := by
  unfold World.cell? at *
  rw [f.old _ h1 h2]; exact hc
theorem RepH.fact (r : RepH C ρ h w) : Facts C ρ h w := by have := r.facts .nil; rwa [Env.app_nil] at this

/-- The integers' road of a read. -/
theorem rdInt_spec {l : Nat} {ks : List IntKind} {len : At} {o : At} {x : Int} (n : Nat) (ho : AtIs ρ o x) (hl : l < ρ.ls.length) (hlen : len.lt ρ.is.length = true)
    (hlen' : ((ρ.ls.getD l []).length : Int) = len.den ρ.is)
    (hcell : ∀ j, j < (ρ.ls.getD l []).length → w.cell? ⟨(ρ.b n).1, (ρ.b n).2 + j, none⟩ = some (cellAt ks j ((ρ.ls.getD l []).getD j 0))) :
    MSpec Φ C (do need .geq o (.c 0); need .lss o len; match kindAt h ks o with | some kd => (do let a ← mkI (.get l o); pure (.i kd a)) | none => M.no 5 : M SV) ρ h w
      fun sv ρ' h' w' => w' = w ∧ h'.hp = h.hp ∧ ∃ v, SvIs ρ' sv v ∧ w.cell? (ρ.at n o) = some v := by
  refine MSpec.rep fun r => ?_
  refine (need_spec ho (AtIs.c ρ 0)).bind ?_
  rintro _ ρ1 h1 w1 l1 ⟨rfl, hp1, c1⟩
  refine (need_spec (ho.mono l1) (AtIs.mono ⟨hlen, rfl⟩ l1)).bind ?_
  rintro _ ρ2 h2 w2 l2 ⟨rfl, hp2, c2⟩
  simp only [cmpB, decide_eq_true_eq] at c1 c2
  have l12 := Env.le_trans l1 l2
  cases ek : kindAt h ks o with
  | none => exact MSpec.no
  | some kd =>
    have hk := kindAt_ok r.fact ek (by rw [ho.val]; omega)
    have hok : (IOp.get l o).okB ρ2.is.length ρ2.ls.length = true := by
      simp only [IOp.okB, IOp.atoms, List.all_cons, List.all_nil, Bool.and_true, Bool.and_eq_true, decide_eq_true_eq]
      exact ⟨(ho.mono l12).1, by have := (Env.le_len l12).2.1; omega⟩
    refine (mkI_ok hok).bind ?_
    rintro a ρ3 h3 w3 l3 ⟨rfl, hp3, ha⟩
    refine MSpec.ret ⟨rfl, by rw [hp3, hp2, hp1], .int kd ((ρ.ls.getD l []).getD x.toNat 0), ?_, ?_⟩
    · have hll : ρ2.ls.getD l [] = ρ.ls.getD l [] := (LIs.mono ⟨hl, rfl⟩ l12).2
      simp only [IOp.den, (ho.mono l12).val, hll] at ha
      exact ⟨by simpa [SV.ok] using ha.1, by simp [SV.den, ha.2]⟩
    · have := hcell x.toNat (by omega)
      unfold Env.at
      rw [ho.val, this]
      unfold cellAt
      rw [ho.val] at hk
      rw [hk]

theorem rdCell_spec {n : Nat} {o : At} {x : Int} (ho : AtIs ρ o x) :
    MSpec Φ C (rdCell n o) ρ h w fun sv ρ' h' w' => w' = w ∧ h'.hp = h.hp ∧ ∃ v, SvIs ρ' sv v ∧ w.cell? (ρ.at n o) = some v := by
  refine MSpec.rep fun r => ?_
  intro hh k hk
  unfold rdCell at hk
  have fc := r.fact
  split at hk
  · rename_i xs el eb
    have hb := fc.heap _ (blk_mem eb)
    simp only [BlkOk] at hb
    split at hk
    · rename_i j
      split at hk
      · split at hk
        · rename_i hj y ey
          have hg := oks_get (ρ := ρ) hb.2.1 ey
          refine ⟨y, ρ, h, w, Env.le_refl ρ, hh, hk, rfl, rfl, _, hg.1, ?_⟩
          simp only [World.cell?, Env.at, hb.2.2.1, hb.2.2.2.2, At.den_c, Option.isSome_none, Bool.false_eq_true, if_false, Nat.zero_add]
          simpa using hg.2
        · exact hk.elim
      · exact hk.elim
    · exact hk.elim
  · rename_i ks l len el eb
    have hb := fc.heap _ (blk_mem eb)
    simp only [BlkOk] at hb
    refine rdInt_spec n ho hb.2.1 hb.2.2.1 hb.2.2.2.2.2.2 (fun j hj => ?_) hh k hk
    simp only [World.cell?, hb.2.2.2.1, hb.2.2.2.2.2.1, Option.isSome_none, Bool.false_eq_true, if_false, Nat.zero_add]
    simpa using cellsOf_get (ks := ks) hj
  · rename_i ks l len eb
    have hb := fc.heap _ (blk_mem eb)
    simp only [BlkOk] at hb
    exact rdInt_spec n ho hb.2.1 hb.2.2.1 hb.2.2.2.2.2.2 (fun j hj => r.frame.cell hb.2.2.2.1 hb.2.2.2.2.1 (hb.2.2.2.2.2.1 j hj)) hh k hk
  · exact hk.elim
end

/-! ### Writing -/
def SV.one : SV → Bool
  | .agg _ | .tup _ => false
  | .raw v => v.oneCell'
  | _ => true
theorem SV.one_den {ρ : Env} {x : SV} (h : x.one = true) : (SV.den ρ x).oneCell' = true := by
  cases x <;> simp_all [SV.one, SV.den, Value.oneCell']

def wrCell (n : Nat) (o : At) (x : SV) : M Unit := fun h k =>
  match h.blk n with
  | some (.cells xs el) =>
    match o with
    | .c j => if 0 ≤ j && j.toNat < xs.length && x.one then k () (h.setBlk n (.cells (xs.set j.toNat x) el)) else .fail 7
    | .v _ => .fail 8
  | some (.arr ks l len el) =>
    match x with
    | .i kd a => (do
        need .geq o (.c 0); need .lss o len
        if kindAt h ks o = some kd then (do
          let l' ← mkL (.set l o a)
          fun h k => k () (h.setBlk n (.arr ks l' len el))) else M.no 9 : M Unit) h k
    | _ => .fail 10
  | _ => .fail 11

theorem oks_set {ni nb : Nat} : ∀ {xs : List SV} {j : Nat} {x : SV}, SV.oks ni nb xs = true → SV.ok ni nb x = true → SV.oks ni nb (xs.set j x) = true
  | [], _, _, h, _ => h
  | y :: ys, 0, x, h, e => by
    simp only [SV.oks, Bool.and_eq_true, List.set_cons_zero] at *
    exact ⟨e, h.2⟩
  | y :: ys, j + 1, x, h, e => by
    simp only [SV.oks, Bool.and_eq_true, List.set_cons_succ] at *
    exact ⟨h.1, oks_set h.2 e⟩
theorem cellsOf_set {ks : List IntKind} {l : List Int} {j : Nat} {n : Int} {k : IntKind} (hk : ks.getD (j % ks.length) .i64 = k) :
    cellsOf ks (l.set j n) = (cellsOf ks l).set j (.int k n) := by
  apply List.ext_getElem?
  intro i
  simp only [cellsOf, List.getElem?_mapIdx, List.getElem?_set, List.length_mapIdx]
  by_cases e : j = i
  · subst e
    simp only [if_true]
    split
    · simp [cellAt]
      simpa [List.getD] using hk
    · rename_i hlt
      simp
  · simp [e]

section
variable {Φ : Phi} {C : Ctx} {ρ : Env} {h : H} {w : World}
theorem setCell_heap (w : World) (p o : Nat) (v : Value) {c : Array Value} {t : TypeId} (hb : w.heap[p]? = some (.cells c t (0, 0))) :
    (w.setCell ⟨p, o, none⟩ v).heap[p]? = some (.cells (c.setIfInBounds o v) t (0, 0)) := by
  simp [World.setCell, Array.getElem?_modify, hb]
theorem setCell_other (w : World) (p o : Nat) (v : Value) {q : Nat} (h : q ≠ p) : (w.setCell ⟨p, o, none⟩ v).heap[q]? = w.heap[q]? := by
  simp [World.setCell, Array.getElem?_modify, Ne.symm h]
theorem dens_set {ρ : Env} : ∀ {xs : List SV} {j : Nat} {x : SV}, SV.dens ρ (xs.set j x) = (SV.dens ρ xs).set j (SV.den ρ x)
  | [], _, _ => rfl
  | y :: ys, 0, x => rfl
  | y :: ys, j + 1, x => by simp [SV.dens, dens_set]

/-- What is asked of a store, and what it does. -/
def Stores (w : World) (a : Addr) (v : Value) (w' : World) : Prop :=
  (∃ u, w.cell? a = some u) ∧ w.frozen? a = false ∧ v.oneCell' = true ∧ w' = w.setCell a v

theorem wrCell_spec {n : Nat} {o : At} {z : Int} {x : SV} {v : Value} (ho : AtIs ρ o z) (hx : SvIs ρ x v) :
    MSpec Φ C (wrCell n o x) ρ h w fun _ ρ' h' w' => Stores w (ρ.at n o) v w' := by
  refine MSpec.rep fun r => ?_
  intro hh k hk
  unfold wrCell at hk
  have fc := r.fact
  split at hk
  · rename_i xs el eb
    have hb := fc.heap _ (blk_mem eb)
    simp only [BlkOk] at hb
    split at hk
    · rename_i j
      split at hk
      · rename_i hc
        simp only [Bool.and_eq_true, decide_eq_true_eq] at hc
        have hat : ρ.at n (.c j) = ⟨(ρ.b n).1, j.toNat, none⟩ := by simp [Env.at, hb.2.2.1]
        have hv : v.oneCell' = true := by rw [← hx.2]; exact SV.one_den hc.2
        refine ⟨(), ρ, _, w.setCell ⟨(ρ.b n).1, j.toNat, none⟩ v, Env.le_refl ρ, ?_, hk, ?_⟩
        · refine r.setBlk eb rfl rfl (by simp) (fun q hq => setCell_other _ _ _ _ hq) rfl rfl (fun σ => ?_)
          have hbs := (r.facts σ).heap _ (blk_mem eb)
          simp only [BlkOk] at hbs ⊢
          have hphys : (ρ.app σ).b n = ρ.b n := Env.b_app hb.1
          refine ⟨hbs.1, oks_set hbs.2.1 (hx.mono (Env.le_app ρ σ)).1, hbs.2.2.1, hbs.2.2.2.1, ?_⟩
          rw [hphys] at hbs ⊢
          rw [setCell_heap _ _ _ _ hbs.2.2.2.2, dens_set, (hx.mono (Env.le_app ρ σ)).2]
          simp
        · rw [hat]
          refine ⟨?_, ?_, hv, rfl⟩
          · have hl : j.toNat < (SV.dens ρ xs).length := by rw [SV.dens_eq]; simpa using hc.1.2
            exact ⟨(SV.dens ρ xs)[j.toNat], by simp [World.cell?, hb.2.2.2.2, hl]⟩
          · simp [World.frozen?, hb.2.2.2.2]
      · exact hk.elim
    · exact hk.elim
  · rename_i ks l len el eb
    have hb := fc.heap _ (blk_mem eb)
    simp only [BlkOk] at hb
    split at hk
    · rename_i kd a
      have ha : AtIs ρ a (a.den ρ.is) := ⟨by simpa [SV.ok] using hx.1, rfl⟩
      have hv : v = .int kd (a.den ρ.is) := by rw [← hx.2]; rfl
      refine ((need_spec ho (AtIs.c ρ 0)).bind (S := fun _ ρ' h' w' => Stores w (ρ.at n o) v w') ?_) hh k hk
      rintro _ ρ1 h1 w1 l1 ⟨rfl, hp1, c1⟩
      refine (need_spec (ho.mono l1) (AtIs.mono ⟨hb.2.2.1, rfl⟩ l1)).bind ?_
      rintro _ ρ2 h2 w2 l2 ⟨rfl, hp2, c2⟩
      simp only [cmpB, decide_eq_true_eq] at c1 c2
      have l12 := Env.le_trans l1 l2
      split
      · rename_i ek
        have hkd := kindAt_ok fc ek (by rw [ho.val]; omega)
        rw [ho.val] at hkd
        have hok : (LOp.set l o a).okB ρ2.is.length ρ2.ls.length = true := by
          simp only [LOp.okB, Bool.and_eq_true, decide_eq_true_eq]
          exact ⟨by have := (Env.le_len l12).2.1; omega, (ho.mono l12).1, (ha.mono l12).1⟩
        refine (mkL_ok hok).bind ?_
        rintro l' ρ3 h3 w3 l3 ⟨rfl, hp3, hL⟩
        have l13 := Env.le_trans l12 l3
        have hll : ρ2.ls.getD l [] = ρ.ls.getD l [] := (LIs.mono ⟨hb.2.1, rfl⟩ l12).2
        simp only [LOp.den, (ho.mono l12).val, (ha.mono l12).val, hll] at hL
        intro r3 k3 hk3
        have eb3 : h3.blk n = some (.arr ks l len el) := by
          unfold H.blk at eb ⊢; rw [hp3, hp2, hp1]; exact eb
        have hat : ρ.at n o = ⟨(ρ.b n).1, z.toNat, none⟩ := by simp [Env.at, hb.2.2.2.1, ho.val]
        have hz : z.toNat < (ρ.ls.getD l []).length := by have := hb.2.2.2.2.2.2; omega
        have hp3' : ρ3.b n = ρ.b n := by obtain ⟨τ, rfl⟩ := l13; exact Env.b_app hb.1
        refine ⟨(), ρ3, _, w3.setCell ⟨(ρ.b n).1, z.toNat, none⟩ v, Env.le_refl ρ3, ?_, hk3, ?_⟩
        · refine r3.setBlk eb3 rfl rfl (by simp) (fun q hq => setCell_other _ _ _ _ (by rw [← hp3']; exact hq)) rfl rfl (fun σ => ?_)
          have hbs := (r3.facts σ).heap _ (blk_mem eb3)
          simp only [BlkOk] at hbs ⊢
          have hphys : (ρ3.app σ).b n = ρ.b n := by rw [Env.b_app (by have := (Env.le_len l13).2.2; have := hb.1; omega), hp3']
          have hL' := hL.mono (Env.le_app ρ3 σ)
          have hlo : (ρ3.app σ).ls.getD l [] = ρ.ls.getD l [] := (LIs.mono ⟨hb.2.1, rfl⟩ (Env.le_trans l13 (Env.le_app ρ3 σ))).2
          refine ⟨hbs.1, hL'.1, hbs.2.2.1, hbs.2.2.2.1, hbs.2.2.2.2.1, ?_, ?_⟩
          · rw [hphys] at hbs ⊢
            rw [setCell_heap _ _ _ _ hbs.2.2.2.2.2.1, hL'.2, hlo, cellsOf_set hkd, hv]
            simp
          · rw [hL'.2]
            rw [hlo] at hbs
            simpa using hbs.2.2.2.2.2.2
        · rw [hat]
          refine ⟨?_, ?_, by rw [hv]; rfl, rfl⟩
          · have hbs := r3.fact.heap _ (blk_mem eb3)
            simp only [BlkOk] at hbs
            rw [hp3'] at hbs
            have hlo : ρ3.ls.getD l [] = ρ.ls.getD l [] := (LIs.mono ⟨hb.2.1, rfl⟩ l13).2
            rw [hlo] at hbs
            exact ⟨cellAt ks z.toNat ((ρ.ls.getD l []).getD z.toNat 0), by simp only [World.cell?, hbs.2.2.2.2.2.1]; simpa using cellsOf_get (ks := ks) hz⟩
          · have hbs := r3.fact.heap _ (blk_mem eb3)
            simp only [BlkOk] at hbs
            rw [hp3'] at hbs
            simp [World.frozen?, hbs.2.2.2.2.2.1]
      · exact MSpec.no
    · exact hk.elim
  · exact hk.elim
end

end Go.Sx
