/- A block of cells as a list of numbers; a stretch of numbers as a list. -/
import Derived.Test.YthjfkblnbecjgaaGreatDoorSxOd
import Derived.Laws.AppendOwn
import Derived.Laws.OwnMore
set_option linter.unusedVariables false
namespace Go.Sx

/-- Is it known that this is not 0? -/
def H.pos (h : H) (a : At) : Bool := match cmpR .neq (h.range a) (some (0, 0)) with | some b => b | none => false
/-- A block whose cells are numbers is told by a list from here on. -/
def toArr (n : Nat) : M Unit := fun h k =>
  match h.blk n with
  | some (.cells xs sz el) => (match numsOf xs with
    | some qs => if h.pos sz then (do
        let l ← mkL (.lit (qs.map (·.2)))
        fun h k => k () (h.setBlk n (.arr (period (qs.map (·.1))) l (.c qs.length) sz el)) : M Unit) h k else .fail 400
    | none => k () h)
  | _ => k () h

section
variable {Φ : Phi} {C : Ctx} {ρ : Env} {h : H} {w : World} {P : Program}
theorem pos_ok (f : Facts C ρ h w) {a : At} (e : h.pos a = true) : a.den ρ.is ≠ 0 := by
  unfold H.pos at e
  split at e
  · rename_i b eb
    subst e
    have := cmpR_ok (y := 0) (range_ok f a) (by simp [inR]) eb
    simpa [cmpB] using this
  · cases e
theorem blk_setBlk {h : H} {n : Nat} {b : Blk} (m : Nat) : (h.setBlk n b).blk m = if n = m then some b else h.blk m := by
  unfold H.setBlk H.swap H.blk
  simp only [List.cons_append, List.nil_append, List.find?_cons]
  by_cases e : n = m
  · simp [e]
  · have e' : (n == m) = false := by simpa using e
    simp only [e', if_neg e]
    congr 1
    generalize h.hp = L
    induction L with
    | nil => rfl
    | cons x L ih =>
      rw [List.filter_cons]
      by_cases hx : x.1 = n
      · have h1 : (!([n] : List Nat).contains x.1) = false := by simp [hx]
        have h2 : (x.1 == m) = false := by rw [hx]; exact e'
        rw [if_neg (by rw [h1]; exact Bool.false_ne_true)]
        rw [List.find?_cons, h2]
        exact ih
      · have h1 : (!([n] : List Nat).contains x.1) = true := by simpa using hx
        rw [if_pos h1, List.find?_cons, List.find?_cons, ih]
theorem toArr_spec {n : Nat} : MSpec Φ C (toArr n) ρ h w fun _ ρ' h' w' => w' = w ∧ ∀ m W, KW C ρ' h' m W ↔ KW C ρ h m W := by
  refine MSpec.rep fun r0 => ?_
  have same : ∀ k : Unit → H → Tree, (Tree.den Φ (k () h) ρ.is ρ.ls) → ∃ (a : Unit) (ρ' : Env) (h' : H) (w' : World), ρ.le ρ' ∧ RepH C ρ' h' w' ∧ (k a h').den Φ ρ'.is ρ'.ls ∧ w' = w ∧ ∀ m W, KW C ρ' h' m W ↔ KW C ρ h m W :=
    fun k hk => ⟨(), ρ, h, w, Env.le_refl ρ, r0, hk, rfl, fun _ _ => Iff.rfl⟩
  intro r k hk
  unfold toArr at hk
  split at hk
  · rename_i xs sz el eb
    split at hk
    · rename_i qs eq
      split at hk
      · rename_i hpos
        have fc := r0.fact
        have hb := fc.heap _ (blk_mem eb)
        have hin := hb.inB
        simp only [Blk.inB, Bool.and_eq_true] at hin
        have hn := numsOf_is hin.1 eq
        have hsz := pos_ok fc hpos
        obtain ⟨l, ρ1, h1, w1, l1, r1, d1, e1, hp1, hL⟩ := mkL_ok (Φ := Φ) (C := C) (w := w) (o := .lit (qs.map (·.2))) (by
          simp only [LOp.okB]
          refine List.all_eq_true.2 fun b hb => ?_
          obtain ⟨q, hqm, rfl⟩ := List.mem_map.1 hb
          exact hn.2.1 q hqm) r (fun l h' => k () (h'.setBlk n (.arr (period (qs.map (·.1))) l (.c qs.length) sz el))) hk
        subst e1
        have hLv : ρ1.ls.getD l [] = qs.map fun q => q.2.den ρ.is := by rw [hL.2]; simp [LOp.den]
        have hb1 : ρ1.b n = ρ.b n := by obtain ⟨τ, rfl⟩ := l1; exact Env.b_app hb.lt
        have hsz1 : sz.den ρ1.is = sz.den ρ.is := (AtIs.mono ⟨hin.2, rfl⟩ l1).2
        have hcells : cellsOf (period (qs.map (·.1))) (qs.map fun q => q.2.den ρ.is) = SV.dens ρ xs := by
          rw [period_cells (by simp), nums_cells, hn.2.2]
        have eb1 : h1.blk n = some (.cells xs sz el) := by rw [blk_of_hp hp1]; exact eb
        have iff : ∀ W, (Blk.arr (period (qs.map (·.1))) l (.c qs.length) sz el).holds C ρ1 W n ↔ (Blk.cells xs sz el).holds C ρ W n := by
          intro W
          simp only [Blk.holds, hLv, hb1, hsz1, hcells, At.den_c]
          constructor
          · intro hh
            exact hh.2.2 hsz
          · intro hh
            exact ⟨by simp, fun hz => absurd hz hsz, fun _ => hh⟩
        refine ⟨(), ρ1, h1.setBlk n (.arr (period (qs.map (·.1))) l (.c qs.length) sz el), w1, l1, ?_, d1, rfl, fun m W => ⟨fun hW => ⟨hW.old, fun b' hb' => ?_⟩, fun hW => ⟨hW.old, fun b' hb' => ?_⟩⟩⟩
        · refine r1.setBlk eb1 ?_ rfl (fun _ _ => rfl) rfl rfl ?_ ?_
          · simp [Blk.phys, hsz1, hsz]
          · simp only [Blk.inB, Bool.and_eq_true, decide_eq_true_eq]
            exact ⟨hL.1, rfl, At.lt_mono hin.2 (Env.le_len l1).1⟩
          · exact (iff w1).2 hb.holds
        · by_cases hm : n = m
          · subst hm
            rw [eb] at hb'
            cases hb'
            exact (iff W).1 (hW.blk _ (by rw [blk_setBlk, if_pos rfl]))
          · have h3 := hW.blk b' (by rw [blk_setBlk, if_neg hm, blk_of_hp hp1]; exact hb')
            have hok := fc.heap _ (blk_mem hb')
            obtain ⟨τ, rfl⟩ := l1
            exact (Blk.holds_app hok.lt hok.inB).1 h3
        · by_cases hm : n = m
          · subst hm
            rw [blk_setBlk, if_pos rfl] at hb'
            cases hb'
            exact (iff W).2 (hW.blk _ eb)
          · rw [blk_setBlk, if_neg hm, blk_of_hp hp1] at hb'
            have h3 := hW.blk b' hb'
            have hok := fc.heap _ (blk_mem hb')
            obtain ⟨τ, rfl⟩ := l1
            exact (Blk.holds_app hok.lt hok.inB).2 h3
      · exact hk.elim
    · exact same k hk
  · exact same k hk

/-! ### A stretch of numbers -/
def H.zeroAt (h : H) (a : At) : Bool := match h.fixed a with | some n => n == 0 | none => false
/-- The numbers from 'o' on, 'c' of them, of a block that is told by a list. -/
def cutList (l : Nat) (ks : List CK) (len o c : At) : M (List CK × Nat) := fun h k =>
  if ks.length = 1 ∨ residue h ks.length 5 o = some 0 then
    (do
      need .geq o (.c 0)
      need .geq c (.c 0)
      let e ← mkI (.add o c)
      need .leq e len
      let l1 ← (if h.zeroAt o then pure l else mkL (.drop l o) : M Nat)
      let l2 ← (if h.zeroAt o && sameAt c len then pure l1 else mkL (.take l1 c) : M Nat)
      pure (ks, l2) : M (List CK × Nat)) h k
  else .fail 401
def rdList (n : Nat) (o c : At) : M (List CK × Nat) := fun h k =>
  match h.blk n with
  | some (.arr ks l len _ _) => cutList l ks len o c h k
  | some (.ro ks l len) => cutList l ks len o c h k
  | _ => .fail 402

theorem cellsOf_drop {ks : List CK} {L : List Int} {o : Nat} (hk : ks.length = 1 ∨ o % ks.length = 0) : cellsOf ks (L.drop o) = (cellsOf ks L).drop o := by
  apply List.ext_getElem?
  intro i
  simp only [cellsOf, List.getElem?_mapIdx, List.getElem?_drop]
  congr 1
  funext n
  unfold cellAt
  rcases hk with hk | hk
  · simp [hk, Nat.mod_one]
  · rw [Nat.add_mod, hk, Nat.zero_add, Nat.mod_mod]
theorem cellsOf_take {ks : List CK} {L : List Int} {c : Nat} : cellsOf ks (L.take c) = (cellsOf ks L).take c := by
  apply List.ext_getElem?
  intro i
  simp only [cellsOf, List.getElem?_mapIdx, List.getElem?_take]
  split <;> rfl
theorem zeroAt_ok (f : Facts C ρ h w) {a : At} (e : h.zeroAt a = true) : a.den ρ.is = 0 := by
  unfold H.zeroAt at e
  split at e
  · rename_i n en
    rw [fixed_ok f en]; simpa using e
  · cases e
theorem cutList_spec {l : Nat} {ks : List CK} {len o c : At} {L : List Int} {zo zc : Int} (hl : LIs ρ l L) (hlen : AtIs ρ len L.length) (ho : AtIs ρ o zo) (hc : AtIs ρ c zc) :
    MSpec Φ C (cutList l ks len o c) ρ h w fun r ρ' h' w' => w' = w ∧ h'.hp = h.hp ∧ 0 ≤ zo ∧ 0 ≤ zc ∧ zo + zc ≤ L.length ∧ r.1 = ks ∧ LIs ρ' r.2 ((L.drop zo.toNat).take zc.toNat) ∧ (ks.length = 1 ∨ zo.toNat % ks.length = 0) := by
  refine MSpec.rep fun r0 => ?_
  intro r k hk
  unfold cutList at hk
  split at hk
  · rename_i hres
    have hmod : 0 ≤ zo → (ks.length = 1 ∨ zo.toNat % ks.length = 0) := by
      intro h0
      rcases hres with h1 | h1
      · exact .inl h1
      · right
        have := residue_ok r0.fact 5 o 0 h1
        rw [ho.val] at this
        obtain ⟨m, hm⟩ := Int.eq_ofNat_of_zero_le h0
        rw [hm] at this ⊢
        simp only [Int.toNat_natCast]
        exact_mod_cast this
    have key : MSpec Φ C (do
        need .geq o (.c 0)
        need .geq c (.c 0)
        let e ← mkI (.add o c)
        need .leq e len
        let l1 ← (if h.zeroAt o then pure l else mkL (.drop l o) : M Nat)
        let l2 ← (if h.zeroAt o && sameAt c len then pure l1 else mkL (.take l1 c) : M Nat)
        pure (ks, l2) : M (List CK × Nat)) ρ h w fun r ρ' h' w' => w' = w ∧ h'.hp = h.hp ∧ 0 ≤ zo ∧ 0 ≤ zc ∧ zo + zc ≤ L.length ∧ r.1 = ks ∧ LIs ρ' r.2 ((L.drop zo.toNat).take zc.toNat) ∧ (ks.length = 1 ∨ zo.toNat % ks.length = 0) := by
      refine (need_spec ho (AtIs.c ρ 0)).bind ?_
      rintro _ ρ1 h1 w1 l1 ⟨rfl, hp1, c1⟩
      refine (need_spec (hc.mono l1) (AtIs.c ρ1 0)).bind ?_
      rintro _ ρ2 h2 w2 l2 ⟨rfl, hp2, c2⟩
      have l12 := Env.le_trans l1 l2
      refine (add_spec (ho.mono l12) (hc.mono l12)).bind ?_
      rintro e ρ3 h3 w3 l3 ⟨rfl, hp3, he⟩
      have l13 := Env.le_trans l12 l3
      refine (need_spec he (hlen.mono l13)).bind ?_
      rintro _ ρ4 h4 w4 l4 ⟨rfl, hp4, c3⟩
      have l14 := Env.le_trans l13 l4
      simp only [cmpB, decide_eq_true_eq] at c1 c2 c3
      have drop : MSpec Φ C (if h.zeroAt o then pure l else mkL (.drop l o) : M Nat) ρ4 h4 w4 fun l' ρ' h' w' => w' = w4 ∧ h'.hp = h4.hp ∧ LIs ρ' l' (L.drop zo.toNat) := by
        split
        · rename_i hz
          have : zo = 0 := by rw [← ho.val]; exact zeroAt_ok r0.fact hz
          subst this
          exact MSpec.ret ⟨rfl, rfl, by simpa using hl.mono l14⟩
        · refine (mkL_ok (o := .drop l o) (by simp only [LOp.okB, Bool.and_eq_true, decide_eq_true_eq]; exact ⟨(hl.mono l14).1, (ho.mono l14).1⟩)).mono ?_
          rintro l' ρ' h' w' ll ⟨e1, e2, e3⟩
          refine ⟨e1, e2, ?_⟩
          simp only [LOp.den, (hl.mono l14).2, (ho.mono l14).val] at e3
          exact e3
      refine drop.bind ?_
      rintro la ρ5 h5 w5 l5 ⟨rfl, hp5, hla⟩
      have l15 := Env.le_trans l14 l5
      have take : MSpec Φ C (if h.zeroAt o && sameAt c len then pure la else mkL (.take la c) : M Nat) ρ5 h5 w5 fun l' ρ' h' w' => w' = w5 ∧ h'.hp = h5.hp ∧ LIs ρ' l' ((L.drop zo.toNat).take zc.toNat) := by
        split
        · rename_i hz
          simp only [Bool.and_eq_true] at hz
          have hz0 : zo = 0 := by rw [← ho.val]; exact zeroAt_ok r0.fact hz.1
          have hcl : c = len := of_decide_eq_true hz.2
          subst hcl
          have : zc = L.length := by rw [← hc.val, hlen.val]
          subst this
          subst hz0
          refine MSpec.ret ⟨rfl, rfl, ?_⟩
          have e2 : (List.drop (0 : Int).toNat L).take (L.length : Int).toNat = L.drop (0 : Int).toNat := by simp
          rw [e2]; exact hla
        · refine (mkL_ok (o := .take la c) (by simp only [LOp.okB, Bool.and_eq_true, decide_eq_true_eq]; exact ⟨hla.1, (hc.mono l15).1⟩)).mono ?_
          rintro l' ρ' h' w' ll ⟨e1, e2, e3⟩
          refine ⟨e1, e2, ?_⟩
          simp only [LOp.den, hla.2, (hc.mono l15).val] at e3
          exact e3
      refine take.bind ?_
      rintro lb ρ6 h6 w6 l6 ⟨rfl, hp6, hlb⟩
      exact MSpec.ret ⟨rfl, by rw [hp6, hp5, hp4, hp3, hp2, hp1], c1, c2, c3, rfl, hlb, hmod c1⟩
    exact key r k hk
  · exact hk.elim
/-- What stands in a stretch. -/
theorem rdList_spec {n : Nat} {o c : At} {zo zc : Int} (hn : n < ρ.bs.length) (ho : AtIs ρ o zo) (hc : AtIs ρ c zc) :
    MSpec Φ C (rdList n o c) ρ h w fun r ρ' h' w' => w' = w ∧ h'.hp = h.hp ∧ 0 ≤ zo ∧ 0 ≤ zc ∧ ∃ M : List Int, LIs ρ' r.2 M ∧ (M.length : Int) = zc ∧
      ∀ j v, (cellsOf r.1 M)[j]? = some v → w.cell? ((ρ.at n o).add j) = some v := by
  refine MSpec.rep fun r0 => ?_
  intro r k hk
  unfold rdList at hk
  have fc := r0.fact
  have fin : ∀ {ks : List CK} {L : List Int}, 0 ≤ zo → 0 ≤ zc → zo + zc ≤ L.length → (ks.length = 1 ∨ zo.toNat % ks.length = 0) →
      (∀ j, j < L.length → w.cell? ⟨(ρ.b n).1, (ρ.b n).2 + j, none⟩ = some (cellAt ks j (L.getD j 0))) →
      ∀ j v, (cellsOf ks ((L.drop zo.toNat).take zc.toNat))[j]? = some v → w.cell? ((ρ.at n o).add j) = some v := by
    intro ks L h0 h1 h2 hk hcell j v hv
    rw [cellsOf_take, cellsOf_drop hk, List.getElem?_take] at hv
    split at hv
    · rename_i hj
      rw [List.getElem?_drop, cellsOf_get (by omega)] at hv
      have := hcell (zo.toNat + j) (by omega)
      rw [← hv, ← this]
      unfold Env.at Addr.add
      rw [ho.val]
      split
      · rename_i h; subst h; simp
      · simp [Nat.add_assoc]
    · cases hv
  split at hk
  · rename_i ks l len sz el eb
    have hb := fc.heap _ (blk_mem eb)
    have hin := hb.inB
    have hh := hb.holds
    simp only [Blk.inB, Bool.and_eq_true, decide_eq_true_eq] at hin
    simp only [Blk.holds] at hh
    obtain ⟨q, ρ1, h1, w1, l1, r1, d1, e1, hp1, z0, z1, z2, ek, hM, hmod⟩ := cutList_spec (L := ρ.ls.getD l []) ⟨hin.1, rfl⟩ ⟨hin.2.1, hh.1.symm⟩ ho hc r k hk
    subst e1
    refine ⟨q, ρ1, h1, w1, l1, r1, d1, rfl, hp1, z0, z1, _, hM, by rw [List.length_take, List.length_drop]; omega, ?_⟩
    rw [ek]
    refine fin z0 z1 z2 hmod fun j hj => ?_
    have hz : sz.den ρ.is ≠ 0 := fun hz => by rw [hh.2.1 hz] at hj; simp at hj
    obtain ⟨h0, hcl⟩ := hh.2.2 hz
    rw [h0, Nat.zero_add]
    exact hcl.cell (cellsOf_get hj)
  · rename_i ks l len eb
    have hb := fc.heap _ (blk_mem eb)
    have hin := hb.inB
    have hh := hb.holds
    simp only [Blk.inB, Bool.and_eq_true, decide_eq_true_eq] at hin
    simp only [Blk.holds] at hh
    obtain ⟨q, ρ1, h1, w1, l1, r1, d1, e1, hp1, z0, z1, z2, ek, hM, hmod⟩ := cutList_spec (L := ρ.ls.getD l []) ⟨hin.1, rfl⟩ ⟨hin.2, hh.2.2.2.1.symm⟩ ho hc r k hk
    subst e1
    refine ⟨q, ρ1, h1, w1, l1, r1, d1, rfl, hp1, z0, z1, _, hM, by rw [List.length_take, List.length_drop]; omega, ?_⟩
    rw [ek]
    exact fin z0 z1 z2 hmod fun j hj => r0.frame.cell hh.1 hh.2.1 (hh.2.2.1 j hj)
  · exact hk.elim
end
end Go.Sx
