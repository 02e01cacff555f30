/- The operations that are no calls (3). -/
import Derived.Test.YthjfkblnbecjgaaGreatDoorSxL
set_option linter.unusedVariables false
namespace Go.Sx

theorem repeatZ_get {s : Nat} {zs : List SV} (hs : zs.length = s) (h0 : 0 < s) : ∀ (n i : Nat), i < n * s → (repeatZ zs n)[i]? = zs[i % s]?
  | 0, i, h => by omega
  | n + 1, i, h => by
    rw [repeatZ]
    by_cases hi : i < s
    · rw [List.getElem?_append_left (by omega), Nat.mod_eq_of_lt hi]
    · rw [List.getElem?_append_right (by omega), hs, repeatZ_get hs h0 n (i - s) (by rw [Nat.succ_mul] at h; omega)]
      congr 1
      rw [← Nat.mod_eq_sub_mod (by omega)]
theorem repeatZ_len {zs : List SV} : ∀ n, (repeatZ zs n).length = n * zs.length
  | 0 => by simp [repeatZ]
  | n + 1 => by rw [repeatZ, List.length_append, repeatZ_len n, Nat.succ_mul, Nat.add_comm]
theorem repeatZ_ok {ni nb : Nat} {zs : List SV} (h : SV.oks ni nb zs = true) : ∀ n, SV.oks ni nb (repeatZ zs n) = true
  | 0 => rfl
  | n + 1 => by
    have app : ∀ xs ys : List SV, SV.oks ni nb xs = true → SV.oks ni nb ys = true → SV.oks ni nb (xs ++ ys) = true := by
      intro xs ys h1 h2
      induction xs with
      | nil => simpa using h2
      | cons x xs ih =>
        simp only [SV.oks, List.cons_append, Bool.and_eq_true] at *
        exact ⟨h1.1, ih h1.2⟩
    exact app _ _ h (repeatZ_ok h n)
theorem repeatZ_dens {ρ : Env} {s n : Nat} {zs : List SV} (hs : zs.length = s) (h0 : 0 < s) :
    (Array.range (n * s)).map (fun i => (SV.dens ρ zs).toArray[i % (SV.dens ρ zs).toArray.size]!) = (SV.dens ρ (repeatZ zs n)).toArray := by
  have hl : (SV.dens ρ zs).length = s := by rw [SV.dens_eq]; simpa using hs
  apply Array.ext'
  apply List.ext_getElem?
  intro i
  by_cases hi : i < n * s
  · have hr := repeatZ_get hs h0 n i hi
    have hm : i % s < zs.length := by rw [hs]; exact Nat.mod_lt _ h0
    rw [SV.dens_eq, SV.dens_eq]
    simp [hi, hr, hs, List.getElem?_eq_getElem hm]
  · rw [SV.dens_eq, SV.dens_eq]
    rw [List.getElem?_eq_none (by simpa using hi), List.getElem?_eq_none (by simp [repeatZ_len, hs]; omega)]

section
variable {Φ : Phi} {C : Ctx} {ρ : Env} {h : H} {w : World} {P : Program}

theorem buildSliceM_spec {t : TypeId} {len : Nat} {ps : List (Nat × Option SV)} {vs : Array (Nat × Value)} (hp : PartsAre ρ ps vs.toList) :
    MSpec Φ C (buildSliceM P t len ps) ρ h w (Does P (Instr.buildSlice t len vs) w) := by
  unfold buildSliceM
  split
  · rename_i elem eu
    split
    · rename_i s zs es ez
      obtain ⟨z, ez', hzo, hzc⟩ := zeroCellsT_is ez w
      split
      · rename_i hc
        have hs0 : 0 < s := by rcases Nat.eq_zero_or_pos s with h0 | h0; · subst h0; omega
                               · exact h0
        split
        · rename_i cs ef
          have hf := fillS_is ps vs.toList _ cs hp (repeatZ_ok (hzo ρ) len) ef
          refine (newBlk_spec hf.1).bind ?_
          rintro p ρ1 h1 w1 l1 ⟨hp1, rfl⟩
          split
          · rename_i n o
            obtain ⟨hn, ho, ha⟩ := hp1.ptr
            refine MSpec.ret ⟨.slice (some ⟨w.heap.size, 0, none⟩) len len, ⟨by simp only [SV.ok, hn, ho.1, decide_true]; rfl, ?_⟩, ?_⟩
            · have : ρ1.at n o = ⟨w.heap.size, 0, none⟩ := by simpa using ha.symm
              simp [SV.den, this]
            · have hfill : Instr.fill (fun i => some (i * s, s)) ((Array.range (len * s)).map (fun i => z.cells[i % z.cells.size]!)) vs.toList = some (SV.dens ρ cs).toArray := by
                rw [hzc ρ, repeatZ_dens hc.1 hs0]; exact hf.2.2
              have hz0 : ¬ len * s = 0 := by omega
              have hbig : ¬ len * s > 2 ^ 24 := by omega
              simp only [Instr.buildSlice, Sem.run_bind, run_underlying eu, Result.andThen_ok, run_sizeOf' es, Sem.run_ite, if_neg hz0, if_neg hbig, run_zeroValue' ez', Sem.run_pure]
              simp only [hfill]
              simp [newRow]
          · exact MSpec.no
        · exact MSpec.no
      · exact MSpec.no
    · exact MSpec.no
  · exact MSpec.no

theorem nilChk_spec {x : SV} {u : Value} (hx : SvIs ρ x u) {ρ' : Operand → Value} {o : Oper} {y : Operand} (ho : o.op = .nilCheck y) (hu : ρ' y = u) :
    MSpec Φ C (nilChk x) ρ h w fun sv ρ1 h1 w1 => w1 = w ∧ h1.hp = h.hp ∧ ∃ v, SvIs ρ1 sv v ∧ ∀ W : World, (execOp ρ' o).run P W = .ok (.value v) W := by
  unfold nilChk
  split
  · have e := hx.ptr.2.2
    refine MSpec.ret ⟨rfl, rfl, u, hx, fun W => ?_⟩
    simp only [execOp, ho, hu, e]; rfl
  · have e := hx.raw
    refine MSpec.ret ⟨rfl, rfl, u, hx, fun W => ?_⟩
    simp only [execOp, ho, hu, e]; rfl
  · have e := hx.iface.2
    refine MSpec.ret ⟨rfl, rfl, u, hx, fun W => ?_⟩
    simp only [execOp, ho, hu, e]; rfl
  · rename_i f cs
    have e : u = .func (.func f) #[] (SV.dens ρ cs).toArray := by rw [← hx.2, SV.den]
    refine MSpec.ret ⟨rfl, rfl, u, hx, fun W => ?_⟩
    simp only [execOp, ho, hu, e]; rfl
  · exact MSpec.no

theorem fieldM_spec {t : TypeId} {x : SV} {u : Value} {i : Nat} (hx : SvIs ρ x u) : MSpec Φ C (fieldM P t x i) ρ h w (DoesV P w h (Instr.field t u i)) := by
  unfold fieldM
  split
  · rename_i xs fs eu
    obtain ⟨hxs, rfl⟩ := hx.agg
    split
    · rename_i f ef
      split
      · rename_i s ea es
        refine MSpec.ret ⟨rfl, rfl, .agg ((SV.dens ρ xs).drop f.offset |>.take s).toArray, ⟨by rw [SV.ok]; exact oks_part _ _ hxs, by rw [SV.den, dens_part]⟩, fun W => ?_⟩
        simp only [Instr.field, Sem.run_bind, run_underlying eu, Result.andThen_ok, ef, asAgg, Sem.run_pure, run_part_agg ea es]
      · rename_i y ea ey
        have := oks_get hxs ey
        refine MSpec.ret ⟨rfl, rfl, _, this.1, fun W => ?_⟩
        simp only [Instr.field, Sem.run_bind, run_underlying eu, Result.andThen_ok, ef, asAgg, Sem.run_pure, run_part_one ea this.2]
      · exact MSpec.no
    · exact MSpec.no
  · exact MSpec.no

theorem fieldAddrM_spec {t : TypeId} {x : SV} {u : Value} {i : Nat} (hx : SvIs ρ x u) : MSpec Φ C (fieldAddrM P t x i) ρ h w (DoesV P w h (Instr.fieldAt t u i)) := by
  unfold fieldAddrM
  split
  · rename_i n o fs eu
    obtain ⟨hn, ho, rfl⟩ := hx.ptr
    split
    · rename_i f ef
      split
      · rename_i s es
        refine (need_spec ho (AtIs.c ρ 0)).bind ?_
        rintro _ ρ1 h1 w1 l1 ⟨rfl, hp1, c1⟩
        simp only [cmpB, decide_eq_true_eq] at c1
        refine (add_spec (ho.mono l1) (AtIs.c ρ1 f.offset)).bind ?_
        rintro o' ρ2 h2 w2 l2 ⟨rfl, hp2, ho'⟩
        have l12 := Env.le_trans l1 l2
        refine MSpec.ret ⟨rfl, by rw [hp2, hp1], .pointer (some ((ρ.at n o).add f.offset)), ⟨?_, ?_⟩, fun W => ?_⟩
        · have := (Env.le_len l12).2.2
          simp [SV.ok, ho'.1]; omega
        · have := at_add (n := n) ((ho.mono l1).mono l2) ho' c1
          rw [at_mono l12 hn ho] at this
          simp [SV.den, this]
        · simp [Instr.fieldAt, run_underlying eu, ef, Instr.sureAddr, fieldPlace, run_sizeOf' es]
      · exact MSpec.no
    · exact MSpec.no
  · exact MSpec.no

theorem at_addI {n : Nat} {o oi : At} {z m : Int} (ho : AtIs ρ o z) (hi : AtIs ρ oi (z + m)) (hz : 0 ≤ z) (hm : 0 ≤ m) : ρ.at n oi = (ρ.at n o).add m.toNat :=
  at_add ho (by rwa [Int.toNat_of_nonneg hm]) hz

theorem vecFact_ok (f : Facts C ρ h w) {n : Nat} {len cap : At} (e : vecFact h n len cap = true) (h0 : cap.den ρ.is = 0) : len.den ρ.is = 0 := by
  unfold vecFact at e
  split at e
  · rename_i ks l bl sz el eb
    simp only [Bool.and_eq_true, decide_eq_true_eq] at e
    obtain ⟨rfl, rfl⟩ := e
    have hh := (f.heap _ (blk_mem eb)).holds
    simp only [Blk.holds] at hh
    have := hh.2.1 h0
    rw [this] at hh
    simpa using hh.1.symm
  · cases e
theorem vecHas_spec {n : Nat} {len cap : At} {zl zc : Int} (hl : AtIs ρ len zl) (hc : AtIs ρ cap zc) : MSpec Φ C (vecHas n len cap) ρ h w fun _ ρ' h' w' => w' = w ∧ h'.hp = h.hp ∧ (zc = 0 → zl = 0) := by
  refine MSpec.rep fun r0 => ?_
  intro r k hk
  unfold vecHas at hk
  split at hk
  · rename_i e
    refine ⟨(), ρ, h, w, Env.le_refl ρ, r, hk, rfl, rfl, fun hz => ?_⟩
    rw [← hl.val]; exact vecFact_ok r0.fact e (by rw [hc.val]; exact hz)
  · obtain ⟨a, ρ1, h1, w1, l1, r1, d1, e1, hp1, hq⟩ := need_spec hc (AtIs.c ρ 0) r k hk
    simp only [cmpB, bne_iff_ne] at hq
    exact ⟨a, ρ1, h1, w1, l1, r1, d1, e1, hp1, fun hz => absurd hz hq⟩

theorem toNat_mul_nat {j : Int} (s : Nat) (c2 : 0 ≤ j) : (j * (s : Int)).toNat = j.toNat * s := by
  obtain ⟨k, rfl⟩ := Int.eq_ofNat_of_zero_le c2
  simp only [Int.toNat_natCast]
  exact_mod_cast Int.toNat_natCast (k * s)
theorem indexAddr_core {n : Nat} {o a len : At} {s : Nat} {z j l : Int} (hn : n < ρ.bs.length) (ho : AtIs ρ o z) (ha : AtIs ρ a j) (hl : AtIs ρ len l) :
    MSpec Φ C (do
        let a ← idxAt n a
        need .geq o (.c 0)
        need .geq a (.c 0)
        need .lss a len
        let m ← mkI (.mul a (.c s))
        let o' ← mkI (.add o m)
        pure (.ptr n o') : M SV) ρ h w fun sv ρ' h' w' => w' = w ∧ h'.hp = h.hp ∧ SvIs ρ' sv (.pointer (some ((ρ.at n o).add (j.toNat * s)))) ∧ 0 ≤ j ∧ j < l := by
  refine (idxAt_spec ha).bind ?_
  rintro b ρ0 h0 w0 l0 ⟨rfl, hp0, ha0⟩
  refine (need_spec (ho.mono l0) (AtIs.c ρ0 0)).bind ?_
  rintro _ ρ1 h1 w1 l1 ⟨rfl, hp1, c1⟩
  have l01 := Env.le_trans l0 l1
  refine (need_spec (ha0.mono l1) (AtIs.c ρ1 0)).bind ?_
  rintro _ ρ2 h2 w2 l2 ⟨rfl, hp2, c2⟩
  have l12 := Env.le_trans l01 l2
  refine (need_spec (ha0.mono (Env.le_trans l1 l2)) (hl.mono l12)).bind ?_
  rintro _ ρ3 h3 w3 l3 ⟨rfl, hp3, c3⟩
  simp only [cmpB, decide_eq_true_eq] at c1 c2 c3
  have l13 := Env.le_trans l12 l3
  refine (mul_spec (ha0.mono (Env.le_trans l1 (Env.le_trans l2 l3))) (AtIs.c ρ3 s)).bind ?_
  rintro m ρ4 h4 w4 l4 ⟨rfl, hp4, hm⟩
  have l14 := Env.le_trans l13 l4
  refine (add_spec (ho.mono l14) hm).bind ?_
  rintro o' ρ5 h5 w5 l5 ⟨rfl, hp5, ho'⟩
  have l15 := Env.le_trans l14 l5
  have hm0 : 0 ≤ j * (s : Int) := Int.mul_nonneg c2 (by omega)
  have := at_addI (n := n) (ho.mono l15) ho' c1 hm0
  rw [at_mono l15 hn ho] at this
  refine MSpec.ret ⟨rfl, by rw [hp5, hp4, hp3, hp2, hp1, hp0], ⟨?_, ?_⟩, c2, c3⟩
  · have := (Env.le_len l15).2.2
    simp [SV.ok, ho'.1]; omega
  · rw [toNat_mul_nat s c2] at this
    simp [SV.den, this]

theorem indexAddrM_spec {t : TypeId} {x i : SV} {u v : Value} (hx : SvIs ρ x u) (hi : SvIs ρ i v) : MSpec Φ C (indexAddrM P t x i) ρ h w (DoesV P w h (Instr.indexAt t u v)) := by
  unfold indexAddrM
  split
  · rename_i n o k a
    obtain ⟨hn, ho, rfl⟩ := hx.ptr
    obtain ⟨ha, rfl⟩ := hi.int
    split
    · rename_i len elem eu
      split
      · rename_i s es
        refine (indexAddr_core hn ho ha (AtIs.c ρ len)).mono ?_
        rintro sv ρ' h' w' l ⟨rfl, hp, hs, c2, c3⟩
        refine ⟨rfl, hp, _, hs, fun W => ?_⟩
        simp [Instr.indexAt, asIntOf, run_underlying eu, Instr.sureAddr, c2, c3, run_sizeOf' es]
      · exact MSpec.no
    · exact MSpec.no
  · rename_i n o len cap k a
    obtain ⟨hn, ho, hl, hcp, rfl⟩ := hx.slc
    obtain ⟨ha, rfl⟩ := hi.int
    split
    · rename_i elem eu
      split
      · rename_i s es
        refine (indexAddr_core hn ho ha hl).mono ?_
        rintro sv ρ' h' w' l ⟨rfl, hp, hs, c2, c3⟩
        refine ⟨rfl, hp, _, hs, fun W => ?_⟩
        have c3' : At.den ρ.is a < ((At.den ρ.is len).toNat : Int) := by omega
        simp [Instr.indexAt, asIntOf, run_underlying eu, c2, run_sizeOf' es]
        omega
      · exact MSpec.no
    · exact MSpec.no
  · rename_i n len cap k a
    obtain ⟨hn, hl, hcp, rfl⟩ := hx.vec
    obtain ⟨ha, rfl⟩ := hi.int
    split
    · rename_i elem eu
      split
      · rename_i s es
        generalize hj : At.den ρ.is a = j at ha ⊢
        refine (idxAt_spec ha).bind ?_
        rintro b ρ0 h0 w0 l0 ⟨rfl, hp0, ha0⟩
        refine (vecHas_spec (n := n) (hl.mono l0) (hcp.mono l0)).bind ?_
        rintro _ ρ1 h1 w1 l1 ⟨rfl, hp1, c1⟩
        refine (need_spec (ha0.mono l1) (AtIs.c ρ1 0)).bind ?_
        rintro _ ρ2 h2 w2 l2 ⟨rfl, hp2, c2⟩
        have l02 := Env.le_trans l0 (Env.le_trans l1 l2)
        refine (need_spec (ha0.mono (Env.le_trans l1 l2)) (hl.mono l02)).bind ?_
        rintro _ ρ3 h3 w3 l3 ⟨rfl, hp3, c3⟩
        simp only [cmpB, decide_eq_true_eq] at c2 c3
        refine (mul_spec (ha0.mono (Env.le_trans l1 (Env.le_trans l2 l3))) (AtIs.c ρ3 s)).bind ?_
        rintro m ρ4 h4 w4 l4 ⟨rfl, hp4, hm⟩
        have l04 := Env.le_trans l02 (Env.le_trans l3 l4)
        have hcz : ¬ At.den ρ.is cap = 0 := fun hz => by have := c1 hz; omega
        refine MSpec.ret ⟨rfl, by rw [hp4, hp3, hp2, hp1, hp0], .pointer (some ((⟨(ρ.b n).1, (ρ.b n).2, none⟩ : Addr).add (j.toNat * s))), ⟨?_, ?_⟩, fun W => ?_⟩
        · have := (Env.le_len l04).2.2
          simp only [SV.ok, Bool.and_eq_true, decide_eq_true_eq]
          exact ⟨by omega, hm.1⟩
        · have hb : ρ4.b n = ρ.b n := by obtain ⟨τ, rfl⟩ := l04; exact Env.b_app hn
          simp only [SV.den, Env.at, hb, hm.2, toNat_mul_nat s c2, Addr.add]
          by_cases hz : j.toNat * s = 0 <;> simp [hz]
        · have c3' : j < ((At.den ρ.is len).toNat : Int) := by omega
          simp [Instr.indexAt, asIntOf, run_underlying eu, c2, run_sizeOf' es, hcz]
          omega
      · exact MSpec.no
    · exact MSpec.no
  · exact MSpec.no

theorem oneKind_all {qs : List (CK × At)} {k : CK} (e : oneKindOf qs = some k) : ∀ q ∈ qs, q.1 = k := by
  unfold oneKindOf at e
  split at e
  · cases e
  · rename_i q r
    split at e
    · rename_i hr
      cases e
      intro p hp
      rcases List.mem_cons.1 hp with rfl | hp
      · rfl
      · exact of_decide_eq_true (List.all_eq_true.1 hr p hp)
    · cases e
theorem pickNum_spec {qs : List (CK × At)} {a : At} {x : Int} (hq : ∀ q ∈ qs, q.2.lt ρ.is.length = true) (ha : AtIs ρ a x) :
    MSpec Φ C (pickNum qs a) ρ h w fun sv ρ' h' w' => w' = w ∧ h'.hp = h.hp ∧ 0 ≤ x ∧ x < qs.length ∧ ∃ v, SvIs ρ' sv v ∧ (qs.map fun q => q.1.val (q.2.den ρ.is))[x.toNat]? = some v := by
  unfold pickNum
  split
  · rename_i k ek
    have hk := oneKind_all ek
    refine (need_spec ha (AtIs.c ρ 0)).bind ?_
    rintro _ ρ1 h1 w1 l1 ⟨rfl, hp1, c1⟩
    refine (need_spec (ha.mono l1) (AtIs.c ρ1 qs.length)).bind ?_
    rintro _ ρ2 h2 w2 l2 ⟨rfl, hp2, c2⟩
    simp only [cmpB, decide_eq_true_eq] at c1 c2
    have l12 := Env.le_trans l1 l2
    refine (mkL_ok (o := .lit (qs.map (·.2))) (by
      simp only [LOp.okB]
      refine List.all_eq_true.2 fun b hb => ?_
      obtain ⟨q, hqm, rfl⟩ := List.mem_map.1 hb
      exact At.lt_mono (hq q hqm) (Env.le_len l12).1)).bind ?_
    rintro l ρ3 h3 w3 l3 ⟨rfl, hp3, hL⟩
    have l13 := Env.le_trans l12 l3
    refine (mkI_ok (o := .get l a) (by
      simp only [IOp.okB, IOp.atoms, List.all_cons, List.all_nil, Bool.and_true, Bool.and_eq_true, decide_eq_true_eq]
      exact ⟨(ha.mono l13).1, hL.1⟩)).bind ?_
    rintro v ρ4 h4 w4 l4 ⟨rfl, hp4, hv⟩
    have hlt : x.toNat < qs.length := by omega
    have hden : (LOp.lit (qs.map (·.2))).den ρ2.is ρ2.ls = qs.map fun q => q.2.den ρ.is := by
      simp only [LOp.den, List.map_map]
      refine List.map_congr_left fun q hqm => ?_
      obtain ⟨τ, rfl⟩ := l12
      exact At.den_app (hq q hqm)
    simp only [IOp.den, (ha.mono l13).val, hL.2, hden] at hv
    refine MSpec.ret ⟨rfl, by rw [hp4, hp3, hp2, hp1], c1, c2, k.val ((qs[x.toNat]).2.den ρ.is), CK.sv_is ?_, ?_⟩
    · simpa [List.getD, List.getElem?_eq_getElem hlt] using hv
    · simp [List.getElem?_eq_getElem hlt, hk _ (List.getElem_mem hlt)]
  · exact MSpec.no

theorem toList_get (s : ByteArray) (j : Nat) : s.data.toList[j]? = s[j]? := by
  cases s with
  | mk d =>
    rw [Array.getElem?_toList]
    by_cases h : j < d.size
    · rw [Array.getElem?_eq_getElem h]
      exact (getElem?_pos (ByteArray.mk d) j h).symm
    · rw [Array.getElem?_eq_none (Nat.le_of_not_lt h)]
      exact (getElem?_neg (ByteArray.mk d) j h).symm
theorem bytesQ_is (s : ByteArray) (is : List Int) : (bytesQ s).map (fun q => q.1.val (q.2.den is)) = s.data.toList.map fun b => Value.int .u8 b.toNat := by
  simp [bytesQ, CK.val]

theorem indexM_spec {t : TypeId} {x i : SV} {u v : Value} (hx : SvIs ρ x u) (hi : SvIs ρ i v) : MSpec Φ C (indexM P t x i) ρ h w (DoesV P w h (Instr.index t u v)) := by
  refine MSpec.rep fun r0 => ?_
  intro r kk hk
  unfold indexM at hk
  split at hk
  · rename_i xs k a
    obtain ⟨hxs, rfl⟩ := hx.agg
    obtain ⟨ha, rfl⟩ := hi.int
    have one : ∀ {len : Nat} {elem : TypeId} {s : Nat} {j : Int} {ρ1 : Env} {h1 : H}, ρ.le ρ1 → h1.hp = h.hp → P.underlying t = some (.array len elem) → sizeT P elem = some s → isAggT P elem = some false → At.den ρ.is a = j →
        MSpec Φ C (if 0 ≤ j ∧ j < len then lift (xs[j.toNat * s]?) else M.no 110 : M SV) ρ1 h1 w (DoesV P w h (Instr.index t (.agg (SV.dens ρ xs).toArray) (.int k (At.den ρ.is a)))) := by
      intro len elem s j ρ1 h1 l1 hp1 eu es ea hj
      split
      · rename_i hc
        cases ey : xs[j.toNat * s]? with
        | none => exact MSpec.no
        | some y =>
          have := oks_get hxs ey
          refine MSpec.ret ⟨rfl, hp1, _, this.1.mono l1, fun W => ?_⟩
          simp [Instr.index, asIntOf, run_underlying eu, hj, hc, run_sizeOf' es, run_part_one ea this.2]
      · exact MSpec.no
    split at hk
    · rename_i len elem eu
      split at hk
      · rename_i s es ea
        refine ((splitAt_spec ha).bind (S := DoesV P w h (Instr.index t (.agg (SV.dens ρ xs).toArray) (.int k (At.den ρ.is a)))) ?_) r kk hk
        rintro j ρ1 h1 w1 l1 ⟨rfl, hp1, hj⟩
        split
        · rename_i hc
          refine MSpec.ret ⟨rfl, hp1, .agg ((SV.dens ρ xs).drop (j.toNat * s) |>.take s).toArray, (SvIs.mono (ρ := ρ) ⟨by rw [SV.ok]; exact oks_part _ _ hxs, by rw [SV.den, dens_part]⟩ l1), fun W => ?_⟩
          rw [← hj]
          simp [Instr.index, asIntOf, run_underlying eu, hc, run_sizeOf' es, run_part_agg ea es]
        · exact MSpec.no
      · rename_i s es ea
        split at hk
        · rename_i j ej
          exact one (Env.le_refl ρ) rfl eu es ea (fixed_ok r0.fact ej) r kk hk
        · split at hk
          · rename_i qs eq
            have hn := numsOf_is hxs eq
            have key : MSpec Φ C (if s = 1 ∧ len = xs.length then pickNum qs a else M.no 111 : M SV) ρ h w (DoesV P w h (Instr.index t (.agg (SV.dens ρ xs).toArray) (.int k (At.den ρ.is a)))) := by
              split
              · rename_i hc
                obtain ⟨rfl, hlen⟩ := hc
                refine (pickNum_spec hn.2.1 ha).mono ?_
                rintro sv ρ1 h1 w1 l1 ⟨rfl, hp1, c1, c2, v, hv, hg⟩
                refine ⟨rfl, hp1, v, hv, fun W => ?_⟩
                rw [← hn.2.2] at hg
                have c3 : At.den ρ.is a < (len : Int) := by rw [hlen, ← hn.1]; exact c2
                have hg' : (SV.dens ρ xs)[(At.den ρ.is a).toNat * 1]? = some v := by rw [Nat.mul_one]; exact hg
                simp [Instr.index, asIntOf, run_underlying eu, c1, c3, run_sizeOf' es]
                have := run_part_one (P := P) ea hg' W
                rw [Nat.mul_one] at this
                exact this
              · exact MSpec.no
            exact key r kk hk
          · refine ((splitAt_spec ha).bind (S := DoesV P w h (Instr.index t (.agg (SV.dens ρ xs).toArray) (.int k (At.den ρ.is a)))) ?_) r kk hk
            rintro j ρ1 h1 w1 l1 ⟨rfl, hp1, hj⟩
            exact one l1 hp1 eu es ea hj.symm
      · exact hk.elim
    · exact hk.elim
  · rename_i s k a
    obtain rfl := hx.raw
    obtain ⟨ha, rfl⟩ := hi.int
    split at hk
    · rename_i eu
      split at hk
      · rename_i j ej
        have hj := fixed_ok r0.fact ej
        have key : MSpec Φ C (if 0 ≤ j then (match s[j.toNat]? with | some b => pure (.i .u8 (.c b.toNat)) | none => M.no 113) else M.no 114 : M SV) ρ h w (DoesV P w h (Instr.index t (.string s) (.int k (At.den ρ.is a)))) := by
          split
          · rename_i hc
            split
            · rename_i b eb
              refine MSpec.ret ⟨rfl, rfl, _, (AtIs.c ρ b.toNat).svi, fun W => ?_⟩
              simp [Instr.index, asIntOf, run_underlying eu, hj, hc, eb]
            · exact MSpec.no
          · exact MSpec.no
        exact key r kk hk
      · refine ((pickNum_spec (fun q hq => ?_) ha).mono (S := DoesV P w h (Instr.index t (.string s) (.int k (At.den ρ.is a)))) ?_) r kk hk
        · simp only [bytesQ, List.mem_map] at hq
          obtain ⟨b, _, rfl⟩ := hq
          rfl
        · rintro sv ρ1 h1 w1 l1 ⟨rfl, hp1, c1, c2, v, hv, hg⟩
          refine ⟨rfl, hp1, v, hv, fun W => ?_⟩
          rw [bytesQ_is, List.getElem?_map, toList_get] at hg
          cases eb : s[(At.den ρ.is a).toNat]? with
          | none => rw [eb] at hg; cases hg
          | some b =>
            rw [eb] at hg
            simp only [Option.map_some, Option.some.injEq] at hg
            subst hg
            simp [Instr.index, asIntOf, run_underlying eu, c1, eb]
    · exact hk.elim
  · exact hk.elim

theorem extractM_spec {x : SV} {u : Value} {i : Nat} (hx : SvIs ρ x u) : MSpec Φ C (extractM x i) ρ h w (DoesV P w h (Instr.extract u i)) := by
  unfold extractM
  split
  · rename_i xs
    have hok : SV.oks ρ.is.length ρ.bs.length xs = true := by have := hx.1; rwa [SV.ok] at this
    have hu : u = .tuple (SV.dens ρ xs).toArray := by rw [← hx.2, SV.den]
    subst hu
    cases ey : xs[i]? with
    | none => exact MSpec.no
    | some y =>
      have := oks_get hok ey
      refine MSpec.ret ⟨rfl, rfl, _, this.1, fun W => ?_⟩
      simp [Instr.extract, this.2]
  · exact MSpec.no

theorem mkIfaceM_spec {t : TypeId} {x : SV} {u : Value} (hx : SvIs ρ x u) : MSpec Φ C (mkIfaceM P t x) ρ h w (DoesV P w h (Instr.makeInterface t u)) := by
  unfold mkIfaceM
  split
  · rename_i hc
    exact MSpec.ret ⟨rfl, rfl, _, ⟨by rw [SV.ok]; exact hx.1, by rw [SV.den, hx.2]⟩, fun W => run_makeInterface W t u hc⟩
  · exact MSpec.no
end
end Go.Sx
