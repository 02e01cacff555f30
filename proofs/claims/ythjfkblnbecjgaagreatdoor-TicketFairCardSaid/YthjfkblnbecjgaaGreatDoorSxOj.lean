/- Copying and clearing stretches. -/
import Derived.Test.YthjfkblnbecjgaaGreatDoorSxOi
set_option linter.unusedVariables false
namespace Go.Sx

def lenOfS : SV → Option At
  | .nils => some (.c 0)
  | .slc _ _ l _ => some l
  | _ => none
/-- New numbers over old ones, from a place on. -/
def putNums (n : Nat) (o : At) (q : List CK × Nat) (c : At) : M Unit := fun h k =>
  match h.blk n with
  | some (.arr ks l bl sz el) => if ks = q.1 ∧ (ks.length = 1 ∨ residue h ks.length 5 o = some 0) then (do
      need .geq o (.c 0)
      need .geq c (.c 0)
      let e ← mkI (.add o c)
      need .leq e bl
      let l' ← mkL (.put l o q.2)
      fun h k => k () (h.setBlk n (.arr ks l' bl sz el)) : M Unit) h k else .fail 430
  | _ => .fail 431
/-- New cells over old ones, the place known. -/
def putCells (n : Nat) (o : At) (ys : List SV) : M Unit := fun h k =>
  match h.fixed o, h.blk n with
  | some j, some (.cells xs sz el) => if 0 ≤ j ∧ j.toNat + ys.length ≤ xs.length ∧ ys.all SV.one then k () (h.setBlk n (.cells (putAll xs j.toNat ys) sz el)) else .fail 432
  | _, _ => .fail 433
def isCells (h : H) (n : Nat) : Bool := match h.blk n with | some (.cells _ _ _) => true | _ => false
/-- 'copy', both slices with a place. -/
def copyGo (s : Nat) (n : Nat) (o dl : At) (m : Nat) (p sl : At) : M SV := do
  need .geq dl (.c 0)
  need .geq sl (.c 0)
  let c ← mkI (.mn sl dl)
  let cs ← mkI (.mul c (.c s))
  (fun h k => match h.fixed c with
    | some c0 => if isCells h n && decide (0 ≤ c0 ∧ c0 ≤ 1000000) then (do
        need .geq p (.c 0)
        let ys ← rdCells m p 0 (c0.toNat * s)
        putCells n o ys : M Unit) h k
      else (do
        toArr m
        toArr n
        let q ← rdList m p cs
        putNums n o q cs : M Unit) h k
    | none => (do
        toArr m
        toArr n
        let q ← rdList m p cs
        putNums n o q cs : M Unit) h k : M Unit)
  pure (.i .i64 c)
def copyM (P : Program) (t : TypeId) (x y : SV) : M SV := fun h k =>
  match P.underlying t with
  | some (.slice elem) => (match sizeT P elem, x, y with
    | some s, .slc n o dl _, .slc m p sl _ => copyGo s n o dl m p sl h k
    | some _, .slc _ _ _ _, .nils => k (.i .i64 (.c 0)) h
    | some _, .nils, .nils => k (.i .i64 (.c 0)) h
    | some _, .nils, .slc _ _ _ _ => k (.i .i64 (.c 0)) h
    | _, _, _ => .fail 435)
  | _ => .fail 436
/-- 'clear' of a slice. -/
def clearM (P : Program) (t : TypeId) (x : SV) : M SV := fun h k =>
  match P.underlying t, x with
  | some (.slice _), .nils => k (.tup []) h
  | some (.slice elem), .slc n o l _ => (match sizeT P elem, zeroCellsT P elem with
    | some s, some zs => if zs.length = s ∧ 0 < s then (match h.fixed l with
      | some l0 => if isCells h n && decide (0 < l0 ∧ l0 ≤ 1000000) then (do putCells n o (repeatZ zs l0.toNat); pure (.tup []) : M SV) h k else .fail 437
      | none => .fail 438) else .fail 439
    | _, _ => .fail 440)
  | _, _ => .fail 441

section
variable {Φ : Phi} {C : Ctx} {ρ : Env} {h : H} {w : World} {P : Program}
/-- Storing a stretch. -/
theorem store_row {p o : Nat} {vs news : List Value} {sz : Int} {el : TypeId} (hc : HasCells w p vs sz el) (hfit : o + news.length ≤ vs.length) (h1 : ∀ v ∈ news, v.oneCell' = true) :
    ∃ w', (storeCells ⟨p, o, none⟩ news).run P w = .ok () w' ∧ HasCells w' p (vs.take o ++ news ++ vs.drop (o + news.length)) sz el ∧ w'.heap.size = w.heap.size ∧ (∀ q, q ≠ p → w'.heap[q]? = w.heap[q]?) ∧ w'.os = w.os ∧ w'.output = w.output := by
  obtain ⟨rest, hr, hs⟩ := hc
  have hst := run_storeCells_at P p o el news 0 _ w hr (by simp; omega) h1
  simp only [Nat.add_zero] at hst
  refine ⟨_, hst, ⟨rest, ?_, ?_⟩, by simp, fun q hq => setRow_other w p q _ hq, rfl, rfl⟩
  · rw [setRow_heap w p _ _ el (0, 0) hr]
    congr 2
    simp only [List.append_assoc]
    rw [List.take_append_of_le_length (by omega), List.drop_append_of_le_length (by omega)]
  · simp only [List.length_append, List.length_take, List.length_drop]
    rw [← hs]
    congr 1
    omega
/-- The stretch is stored. -/
def Put (P : Program) (w : World) (a : Addr) (news : List Value) : Unit → Env → H → World → Prop := fun _ _ _ w' => (storeCells a news).run P w = .ok () w'

theorem putAll_den {ρ : Env} : ∀ (ys : List SV) (xs : List SV) (o : Nat), o + ys.length ≤ xs.length → SV.dens ρ (putAll xs o ys) = (SV.dens ρ xs).take o ++ SV.dens ρ ys ++ (SV.dens ρ xs).drop (o + ys.length)
  | [], xs, o, h => by simp [putAll, SV.dens]
  | y :: ys, xs, o, h => by
    simp only [List.length_cons] at h
    rw [putAll, putAll_den ys (xs.set o y) (o + 1) (by rw [List.length_set]; omega), dens_set]
    have := list_seg_step (SV.dens ρ xs) o (SV.den ρ y) (SV.dens ρ ys) (by rw [SV.dens_eq, SV.dens_eq, List.length_map, List.length_map]; omega)
    have hl : (SV.dens ρ ys).length = ys.length := by rw [SV.dens_eq, List.length_map]
    rw [hl] at this
    simp only [SV.dens, List.length_cons]
    rw [← this]

theorem putCells_spec {n : Nat} {o : At} {z : Int} {ys : List SV} (hn : n < ρ.bs.length) (ho : AtIs ρ o z) (hy : SV.oks ρ.is.length ρ.bs.length ys = true) :
    MSpec Φ C (putCells n o ys) ρ h w (Put P w (ρ.at n o) (SV.dens ρ ys)) := by
  refine MSpec.rep fun r0 => ?_
  intro r k hk
  unfold putCells at hk
  split at hk
  · rename_i j xs sz el ej eb
    split at hk
    · rename_i hc
      obtain ⟨h0, hle, hone⟩ := hc
      have hj := fixed_ok r0.fact ej
      rw [ho.val] at hj
      subst hj
      have hb := r0.fact.heap _ (blk_mem eb)
      have hin := hb.inB
      have hh := hb.holds
      simp only [Blk.inB, Bool.and_eq_true] at hin
      simp only [Blk.holds] at hh
      have hyl : (SV.dens ρ ys).length = ys.length := by rw [SV.dens_eq, List.length_map]
      have hxl : (SV.dens ρ xs).length = xs.length := by rw [SV.dens_eq, List.length_map]
      obtain ⟨w', hr, hcells, hsz, hoth, hos, hout⟩ := store_row (P := P) (o := z.toNat) (news := SV.dens ρ ys) hh.2 (by rw [hyl, hxl]; exact hle) (by
        intro v hv
        rw [SV.dens_eq] at hv
        obtain ⟨y, hy, rfl⟩ := List.mem_map.1 hv
        exact SV.one_den (List.all_eq_true.1 hone y hy))
      refine ⟨(), ρ, _, w', Env.le_refl ρ, ?_, hk, ?_⟩
      · refine r.setBlk eb rfl hsz (fun q hq => hoth q (by simpa [Blk.phys] using hq)) hos hout ?_ ?_
        · simp only [Blk.inB, Bool.and_eq_true]
          exact ⟨(putAll_is ys xs z.toNat hin.1 hy).1, hin.2⟩
        · refine ⟨hh.1, ?_⟩
          rw [putAll_den ys xs z.toNat hle, ← hyl]
          exact hcells
      · have hat : ρ.at n o = ⟨(ρ.b n).1, z.toNat, none⟩ := by simp [Env.at, hh.1, ho.val]
        rw [hat]; exact hr
    · exact hk.elim
  · exact hk.elim

theorem cellsOf_put {ks : List CK} {L N : List Int} {o : Nat} (h : ks.length = 1 ∨ o % ks.length = 0) (hfit : o + N.length ≤ L.length) :
    cellsOf ks (putL L o N) = (cellsOf ks L).take o ++ cellsOf ks N ++ (cellsOf ks L).drop (o + N.length) := by
  apply List.ext_getElem?
  intro i
  unfold putL
  have hmod : ∀ j, cellAt ks (o + j) = cellAt ks j := by
    intro j
    funext n
    unfold cellAt
    rcases h with h | h
    · simp [h, Nat.mod_one]
    · rw [Nat.add_mod, h, Nat.zero_add, Nat.mod_mod]
  have ha : (L.take o).length = o := by rw [List.length_take]; omega
  have hb : ((L.mapIdx (cellAt ks)).take o).length = o := by rw [List.length_take, List.length_mapIdx]; omega
  rw [List.append_assoc, List.append_assoc]
  simp only [cellsOf, List.getElem?_mapIdx]
  by_cases h1 : i < o
  · rw [List.getElem?_append_left (l₁ := L.take o) (by rw [ha]; exact h1), List.getElem?_append_left (l₁ := (L.mapIdx (cellAt ks)).take o) (by rw [hb]; exact h1)]
    simp [h1]
  · rw [List.getElem?_append_right (l₁ := L.take o) (by rw [ha]; omega), List.getElem?_append_right (l₁ := (L.mapIdx (cellAt ks)).take o) (by rw [hb]; omega), ha, hb]
    by_cases h2 : i - o < N.length
    · rw [List.getElem?_append_left (l₁ := N) h2, List.getElem?_append_left (l₁ := N.mapIdx (cellAt ks)) (by rw [List.length_mapIdx]; exact h2)]
      simp only [List.getElem?_mapIdx]
      have := hmod (i - o)
      rw [show o + (i - o) = i by omega] at this
      rw [this]
    · rw [List.getElem?_append_right (l₁ := N) (by omega), List.getElem?_append_right (l₁ := N.mapIdx (cellAt ks)) (by rw [List.length_mapIdx]; omega)]
      simp only [List.getElem?_drop, List.getElem?_mapIdx, List.length_mapIdx]
      rw [show o + N.length + (i - o - N.length) = i by omega]

theorem putNums_spec {n : Nat} {o c : At} {zo zc : Int} {q : List CK × Nat} {N : List Int} (hn : n < ρ.bs.length) (ho : AtIs ρ o zo) (hc : AtIs ρ c zc) (hN : LIs ρ q.2 N) (hNl : (N.length : Int) = zc) :
    MSpec Φ C (putNums n o q c) ρ h w (Put P w (ρ.at n o) (cellsOf q.1 N)) := by
  refine MSpec.rep fun r0 => ?_
  intro r k hk
  unfold putNums at hk
  split at hk
  · rename_i ks l bl sz el eb
    split at hk
    · rename_i hcond
      obtain ⟨rfl, hres⟩ := hcond
      have hb := r0.fact.heap _ (blk_mem eb)
      have hin := hb.inB
      have hh := hb.holds
      simp only [Blk.inB, Bool.and_eq_true, decide_eq_true_eq] at hin
      simp only [Blk.holds] at hh
      have hmod : 0 ≤ zo → (q.1.length = 1 ∨ zo.toNat % q.1.length = 0) := by
        intro h0
        rcases hres with h1 | h1
        · exact .inl h1
        · right
          have := residue_ok r0.fact 5 o 0 h1
          rw [ho.val] at this
          obtain ⟨m, hm⟩ := Int.eq_ofNat_of_zero_le h0
          rw [hm] at this ⊢
          simp only [Int.toNat_natCast]
          exact_mod_cast this
      have key : MSpec Φ C (do
          need .geq o (.c 0)
          need .geq c (.c 0)
          let e ← mkI (.add o c)
          need .leq e bl
          let l' ← mkL (.put l o q.2)
          fun h k => k () (h.setBlk n (.arr q.1 l' bl sz el)) : M Unit) ρ h w (Put P w (ρ.at n o) (cellsOf q.1 N)) := by
        refine (need_spec ho (AtIs.c ρ 0)).bind ?_
        rintro _ ρ1 h1 w1 l1 ⟨rfl, hp1, c1⟩
        refine (need_spec (hc.mono l1) (AtIs.c ρ1 0)).bind ?_
        rintro _ ρ2 h2 w2 l2 ⟨rfl, hp2, c2⟩
        have L2 := Env.le_trans l1 l2
        refine (add_spec (ho.mono L2) (hc.mono L2)).bind ?_
        rintro e ρ3 h3 w3 l3 ⟨rfl, hp3, he⟩
        have L3 := Env.le_trans L2 l3
        refine (need_spec he (AtIs.mono ⟨hin.2.1, rfl⟩ L3)).bind ?_
        rintro _ ρ4 h4 w4 l4 ⟨rfl, hp4, c4⟩
        have L4 := Env.le_trans L3 l4
        simp only [cmpB, decide_eq_true_eq] at c1 c2 c4
        have hl4 : LIs ρ4 l (ρ.ls.getD l []) := LIs.mono ⟨hin.1, rfl⟩ L4
        have hN4 := hN.mono L4
        refine (mkL_ok (o := .put l o q.2) (by simp only [LOp.okB, Bool.and_eq_true, decide_eq_true_eq]; exact ⟨hl4.1, (ho.mono L4).1, hN4.1⟩)).bind ?_
        rintro l' ρ5 h5 w5 l5 ⟨rfl, hp5, hl'⟩
        have L5 := Env.le_trans L4 l5
        simp only [LOp.den, hl4.2, (ho.mono L4).val, hN4.2] at hl'
        intro r5 k5 hk5
        have eb5 : h5.blk n = some (.arr q.1 l bl sz el) := (blk_of_hp (by rw [hp5, hp4, hp3, hp2, hp1]) n).trans eb
        have hfit : zo.toNat + N.length ≤ (ρ.ls.getD l []).length := by have := hh.1; omega
        have hb5 : ρ5.b n = ρ.b n := by obtain ⟨τ, rfl⟩ := L5; exact Env.b_app hb.lt
        have hsz5 : sz.den ρ5.is = sz.den ρ.is := (AtIs.mono ⟨hin.2.2, rfl⟩ L5).2
        have hbl5 : bl.den ρ5.is = bl.den ρ.is := (AtIs.mono ⟨hin.2.1, rfl⟩ L5).2
        by_cases hz : sz.den ρ.is = 0
        · -- nothing stands there, nothing is stored
          have hL0 := hh.2.1 hz
          have hN0 : N = [] := by rw [hL0] at hfit; simp at hfit; exact hfit.2
          subst hN0
          refine ⟨(), ρ5, _, w5, Env.le_refl ρ5, r5.setBlk eb5 (by simp [Blk.phys]) rfl (fun _ _ => rfl) rfl rfl ?_ ?_, hk5, by simp [Put, cellsOf, storeCells]⟩
          · simp only [Blk.inB, Bool.and_eq_true, decide_eq_true_eq]
            exact ⟨hl'.1, At.lt_mono hin.2.1 (Env.le_len L5).1, At.lt_mono hin.2.2 (Env.le_len L5).1⟩
          · have e0 : putL (ρ.ls.getD l []) zo.toNat [] = [] := by rw [hL0]; simp [putL]
            simp only [Blk.holds]
            rw [hl'.2, hbl5, hsz5, e0]
            refine ⟨by have := hh.1; rw [hL0] at this; exact this, fun _ => rfl, fun h0 => absurd hz h0⟩
        · obtain ⟨ho0, hcl⟩ := hh.2.2 hz
          obtain ⟨w', hr, hcells, hszw, hoth, hos, hout⟩ := store_row (P := P) (o := zo.toNat) (news := cellsOf q.1 N) hcl (by rw [cellsOf_len, cellsOf_len]; exact hfit) cellsOf_one
          refine ⟨(), ρ5, _, w', Env.le_refl ρ5, r5.setBlk eb5 (by simp [Blk.phys]) hszw (fun p hp => hoth p (by simp only [Blk.phys, hsz5, if_neg hz, hb5] at hp; simpa using hp)) hos hout ?_ ?_, hk5, ?_⟩
          · simp only [Blk.inB, Bool.and_eq_true, decide_eq_true_eq]
            exact ⟨hl'.1, At.lt_mono hin.2.1 (Env.le_len L5).1, At.lt_mono hin.2.2 (Env.le_len L5).1⟩
          · simp only [Blk.holds]
            rw [hl'.2, hbl5, hsz5, hb5, cellsOf_put (hmod c1) hfit]
            refine ⟨?_, fun h0 => absurd h0 hz, fun _ => ⟨ho0, ?_⟩⟩
            · rw [← hh.1]
              congr 1
              unfold putL
              simp only [List.length_append, List.length_take, List.length_drop]
              omega
            · rw [cellsOf_len] at hcells; exact hcells
          · have hat : ρ.at n o = ⟨(ρ.b n).1, zo.toNat, none⟩ := by simp [Env.at, ho0, ho.val]
            show (storeCells _ _).run P _ = _
            rw [hat]; exact hr
      exact key r k hk
    · exact hk.elim
  · exact hk.elim
end
end Go.Sx
