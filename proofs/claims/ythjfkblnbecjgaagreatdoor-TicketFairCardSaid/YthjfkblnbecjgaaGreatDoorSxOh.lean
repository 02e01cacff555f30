/- Appends are sound (2). -/
import Derived.Test.YthjfkblnbecjgaaGreatDoorSxOg
set_option linter.unusedVariables false
namespace Go.Sx
section
variable {Φ : Phi} {C : Ctx} {ρ : Env} {h : H} {w : World} {P : Program}

/-- What stands in the destination. -/
structure OldIs (C : Ctx) (ρ : Env) (h : H) (w : World) (d : Dst) (v : Value) (e : TypeId) (s : Nat) (xs : List Value) : Prop where
  whole : Whole w e s v (d.len.den ρ.is).toNat xs
  len : 0 ≤ d.len.den ρ.is
  old : ∀ n, d.name = some n → d.cap.den ρ.is ≠ 0 → ∃ b, h.blk n = some b ∧ (ρ.b n).1 ∈ b.phys ρ n
  cap : ∀ n, d.name = some n → 0 ≤ d.cap.den ρ.is

theorem okB_take {l : Nat} {c : At} (hl : l < ρ.ls.length) (hc : c.lt ρ.is.length = true) : (LOp.take l c).okB ρ.is.length ρ.ls.length = true := by
  simp only [LOp.okB, Bool.and_eq_true, decide_eq_true_eq]; exact ⟨hl, hc⟩
theorem okB_app {l m : Nat} (hl : l < ρ.ls.length) (hm : m < ρ.ls.length) : (LOp.app l m).okB ρ.is.length ρ.ls.length = true := by
  simp only [LOp.okB, Bool.and_eq_true, decide_eq_true_eq]; exact ⟨hl, hm⟩
theorem DstIs.named {d : Dst} {v : Value} (hd : DstIs ρ d v) {n : Nat} (hn : d.name = some n) :
    (v = .slice none 0 0 ∧ d.cap.den ρ.is = 0) ∨ v = .slice (some ⟨(ρ.b n).1, (ρ.b n).2, none⟩) (d.len.den ρ.is).toNat (d.cap.den ρ.is).toNat := by
  rcases hd.val with ⟨hv, hv2⟩ | ⟨m, hm, hv⟩
  · rcases hv2 with hv2 | hv2
    · subst hv2; cases hn
    · exact .inl ⟨hv, hv2⟩
  · rw [hn] at hm; cases hm; exact .inr hv
theorem DstIs.unnamed {d : Dst} {v : Value} (hd : DstIs ρ d v) (hn : d.name = none) : v = .slice none 0 0 ∧ d.len = .c 0 ∧ d.cap = .c 0 := by
  rcases hd.val with ⟨hv, hv2⟩ | ⟨m, hm, hv⟩
  · cases d
    · exact ⟨hv, rfl, rfl⟩
    · cases hn
    · cases hn
  · rw [hn] at hm; cases hm

theorem oldNums1_spec {elem : TypeId} {s : Nat} (hs : 0 < s) {d : Dst} {v : Value} (hd : DstIs ρ d v) {n : Nat} (hdn : d.name = some n) {ks : List CK} {l m : Nat} {bl0 sz0 : At} (eb : h.blk n = some (.arr ks l bl0 sz0 elem)) (hmod : s % ks.length = 0)
    {N : List Int} (hN : LIs ρ m N) :
    MSpec Φ C (oldNums1 s d l bl0 sz0 m) ρ h w fun l ρ' h' w' => w' = w ∧ h'.hp = h.hp ∧ ∃ L : List Int, LIs ρ' l (L ++ N) ∧ OldIs C ρ' h' w d v elem s (cellsOf ks L) ∧ (d.len.den ρ.is).toNat * s = L.length ∧ cellsOf ks (L ++ N) = cellsOf ks L ++ cellsOf ks N := by
  refine MSpec.rep fun r0 => ?_
  have hbok := r0.fact.heap _ (blk_mem eb)
  have hin := hbok.inB
  have hh := hbok.holds
  simp only [Blk.inB, Bool.and_eq_true, decide_eq_true_eq] at hin
  simp only [Blk.holds] at hh
  unfold oldNums1
  refine (need_spec hd.len (AtIs.c ρ 0)).bind ?_
  rintro _ ρ1 h1 w1 l1 ⟨rfl, hp1, c1⟩
  refine (need_spec (hd.len.mono l1) (hd.cap.mono l1)).bind ?_
  rintro _ ρ2 h2 w2 l2 ⟨rfl, hp2, c2⟩
  have L2 := Env.le_trans l1 l2
  refine (need_spec (hd.cap.mono L2) (AtIs.c ρ2 _)).bind ?_
  rintro _ ρ3 h3 w3 l3 ⟨rfl, hp3, c3⟩
  have L3 := Env.le_trans L2 l3
  refine (mul_spec (hd.len.mono L3) (AtIs.c ρ3 s)).bind ?_
  rintro e1 ρ4 h4 w4 l4 ⟨rfl, hp4, he1⟩
  have L4 := Env.le_trans L3 l4
  refine (need_spec he1 (AtIs.mono ⟨hin.2.1, rfl⟩ L4)).bind ?_
  rintro _ ρ5 h5 w5 l5 ⟨rfl, hp5, c5⟩
  have L5 := Env.le_trans L4 l5
  refine (mul_spec (hd.cap.mono L5) (AtIs.c ρ5 s)).bind ?_
  rintro e2 ρ6 h6 w6 l6 ⟨rfl, hp6, he2⟩
  have L6 := Env.le_trans L5 l6
  refine (need_spec he2 (AtIs.mono ⟨hin.2.2, rfl⟩ L6)).bind ?_
  rintro _ ρ7 h7 w7 l7 ⟨rfl, hp7, c7⟩
  have L7 := Env.le_trans L6 l7
  simp only [cmpB, decide_eq_true_eq, beq_iff_eq] at c1 c2 c3 c5 c7
  obtain ⟨zl, hzl⟩ := Int.eq_ofNat_of_zero_le c1
  obtain ⟨zc, hzc⟩ := Int.eq_ofNat_of_zero_le (Int.le_trans c1 c2)
  have e1v : (d.len.den ρ.is * (s : Int)) = ((zl * s : Nat) : Int) := by rw [hzl]; exact (Int.natCast_mul zl s).symm
  have e2v : (d.cap.den ρ.is * (s : Int)) = ((zc * s : Nat) : Int) := by rw [hzc]; exact (Int.natCast_mul zc s).symm
  have hlen : zl * s ≤ (ρ.ls.getD l []).length := by rw [e1v, ← hh.1] at c5; exact_mod_cast c5
  have hll : LIs ρ7 l (ρ.ls.getD l []) := LIs.mono ⟨hin.1, rfl⟩ L7
  have ht : MSpec Φ C (if sameAt e1 bl0 then pure l else mkL (.take l e1) : M Nat) ρ7 h7 w7 fun l' ρ' h' w' => w' = w7 ∧ h'.hp = h7.hp ∧ LIs ρ' l' ((ρ.ls.getD l []).take (zl * s)) := by
    split
    · rename_i hsame
      have : e1 = bl0 := of_decide_eq_true hsame
      subst this
      refine MSpec.ret ⟨rfl, rfl, ?_⟩
      have e4 : ((ρ.ls.getD l []).length : Int) = ((zl * s : Nat) : Int) := by
        rw [hh.1, ← e1v, ← he1.val]
        exact (AtIs.mono ⟨hin.2.1, rfl⟩ L4).2.symm
      rw [List.take_of_length_le (by omega)]
      exact hll
    · refine (mkL_ok (okB_take hll.1 ((he1.mono (Env.le_trans l5 (Env.le_trans l6 l7))).1))).mono ?_
      rintro l' ρ' h' w' ll ⟨g1, g2, g3⟩
      refine ⟨g1, g2, ?_⟩
      simp only [LOp.den, hll.2, (he1.mono (Env.le_trans l5 (Env.le_trans l6 l7))).val, e1v, Int.toNat_natCast] at g3
      exact g3
  refine ht.bind ?_
  rintro la ρ8 h8 w8 l8 ⟨rfl, hp8, hla⟩
  have L8 := Env.le_trans L7 l8
  have hM8 := hN.mono L8
  refine (mkL_ok (okB_app hla.1 hM8.1)).mono ?_
  rintro lb ρ9 h9 w9 l9 ⟨rfl, hp9, hlb⟩
  have L9 := Env.le_trans L8 l9
  simp only [LOp.den, hla.2, hM8.2] at hlb
  have d1 : d.len.den ρ9.is = d.len.den ρ.is := (hd.len.mono L9).2
  have d2 : d.cap.den ρ9.is = d.cap.den ρ.is := (hd.cap.mono L9).2
  have hb9 : ρ9.b n = ρ.b n := by obtain ⟨τ, rfl⟩ := L9; exact Env.b_app hbok.lt
  have hsz9 : sz0.den ρ9.is = sz0.den ρ.is := (AtIs.mono ⟨hin.2.2, rfl⟩ L9).2
  have hsz : sz0.den ρ.is = ((zc * s : Nat) : Int) := by
    rw [← e2v]
    have : sz0.den ρ6.is = sz0.den ρ.is := (AtIs.mono ⟨hin.2.2, rfl⟩ L6).2
    rw [← this]
    first | exact c7.symm | (rw [this]; exact c7.symm)
  have hlenT : ((ρ.ls.getD l []).take (zl * s)).length = zl * s := by rw [List.length_take]; omega
  have hpos : d.cap.den ρ.is ≠ 0 → sz0.den ρ.is ≠ 0 := by
    intro h0
    rw [hsz]
    have : 0 < zc * s := Nat.mul_pos (by omega) hs
    omega
  refine ⟨rfl, by rw [hp9, hp8, hp7, hp6, hp5, hp4, hp3, hp2, hp1], _, hlb, ⟨?_, by rw [d1]; exact c1, ?_, ?_⟩, ?_, ?_⟩
  · rw [d1, hzl, Int.toNat_natCast]
    by_cases hz : d.cap.den ρ.is = 0
    · have hz0 : zl = 0 := by omega
      have hzc0 : zc = 0 := by omega
      subst hz0
      rcases hd.named hdn with ⟨hv, _⟩ | hv
      · left; exact ⟨hv, rfl, by simp [cellsOf]⟩
      · right; left
        exact ⟨⟨(ρ.b n).1, (ρ.b n).2, none⟩, by rw [hv, hzl, hz]; rfl, rfl, by simp [cellsOf]⟩
    · rcases hd.named hdn with ⟨_, hc0⟩ | hv
      · exact absurd hc0 hz
      · have hcell := hh.2.2 (hpos hz)
        rw [hv, hzl, hzc, Int.toNat_natCast, Int.toNat_natCast, hcell.1]
        have := hcell.2.whole (n := zl) (cap := zc) (s := s) (k := zl * s) rfl (by rw [cellsOf_len]; exact hlen) (by omega) (by omega) hsz
        rw [take_cells] at this
        exact this
  · intro m hm h0
    rw [hdn] at hm
    cases hm
    rw [d2] at h0
    refine ⟨_, (blk_of_hp (by rw [hp9, hp8, hp7, hp6, hp5, hp4, hp3, hp2, hp1]) n).trans eb, ?_⟩
    simp only [Blk.phys, hsz9, if_neg (hpos h0)]
    exact List.mem_singleton.2 rfl
  · intro m hm; rw [d2]; omega
  · rw [hzl, Int.toNat_natCast, hlenT]
  · refine cellsOf_app (.inr ?_)
    rw [hlenT, Nat.mul_mod, hmod, Nat.mul_zero, Nat.zero_mod]
theorem oldNums_spec {elem : TypeId} {s : Nat} (hs : 0 < s) {d : Dst} {v : Value} (hd : DstIs ρ d v) {q : List CK × Nat} {N : List Int} (hN : LIs ρ q.2 N) :
    MSpec Φ C (oldNums elem s d q) ρ h w fun l ρ' h' w' => w' = w ∧ h'.hp = h.hp ∧ ∃ L : List Int, LIs ρ' l (L ++ N) ∧ OldIs C ρ' h' w d v elem s (cellsOf q.1 L) ∧ (d.len.den ρ.is).toNat * s = L.length ∧ cellsOf q.1 (L ++ N) = cellsOf q.1 L ++ cellsOf q.1 N := by
  intro r k hk
  unfold oldNums at hk
  split at hk
  · rename_i hdn
    obtain ⟨hv, e1, e2⟩ := hd.unnamed hdn
    refine ⟨q.2, ρ, h, w, Env.le_refl ρ, r, hk, rfl, rfl, [], by simpa using hN, ⟨?_, by rw [e1]; exact Int.le_refl 0, (fun n hn => by rw [hdn] at hn; cases hn), (fun n hn => by rw [hdn] at hn; cases hn)⟩, by simp [e1], by simp [cellsOf]⟩
    rw [e1]
    exact .inl ⟨hv, rfl, by simp [cellsOf]⟩
  · rename_i n hdn
    split at hk
    · rename_i ks0 l bl0 sz0 el eb
      split at hk
      · rename_i hc
        obtain ⟨rfl, rfl, hmod⟩ := hc
        exact oldNums1_spec hs hd hdn eb hmod hN r k hk
      · exact hk.elim
    · exact hk.elim
theorem oldCells_spec {elem : TypeId} {s k : Nat} (hs : 0 < s) {d : Dst} {v : Value} (hd : DstIs ρ d v) (hk1 : k ≤ 1000000) :
    MSpec Φ C (oldCells elem s d k) ρ h w fun q ρ' h' w' => w' = w ∧ h'.hp = h.hp ∧ SV.oks ρ'.is.length ρ'.bs.length q.2 = true ∧ OldIs C ρ' h' w d v elem s (SV.dens ρ' q.2) ∧ (d.len.den ρ.is).toNat = q.1 ∧ q.1 + k ≤ 1000000 ∧ q.2.length = q.1 * s := by
  refine MSpec.rep fun r0 => ?_
  intro r kk hk
  unfold oldCells at hk
  split at hk
  · rename_i hdn
    obtain ⟨hv, e1, e2⟩ := hd.unnamed hdn
    refine ⟨(0, []), ρ, h, w, Env.le_refl ρ, r, hk, rfl, rfl, rfl, ⟨?_, by rw [e1]; exact Int.le_refl 0, (fun n hn => by rw [hdn] at hn; cases hn), (fun n hn => by rw [hdn] at hn; cases hn)⟩, by simp [e1], by omega, by simp⟩
    rw [e1]
    exact .inl ⟨hv, rfl, rfl⟩
  · rename_i n hdn
    split at hk
    · rename_i l0 xs sz0 el el0 eb
      split at hk
      · rename_i hc
        obtain ⟨rfl, h0, hle, hsm⟩ := hc
        have hbok := r0.fact.heap _ (blk_mem eb)
        have hin := hbok.inB
        have hh := hbok.holds
        simp only [Blk.inB, Bool.and_eq_true] at hin
        simp only [Blk.holds] at hh
        have hl0 := fixed_ok r0.fact el0
        have key : MSpec Φ C (oldCells1 s d l0 xs sz0) ρ h w fun q ρ' h' w' => w' = w ∧ h'.hp = h.hp ∧ SV.oks ρ'.is.length ρ'.bs.length q.2 = true ∧ OldIs C ρ' h' w d v el s (SV.dens ρ' q.2) ∧ (d.len.den ρ.is).toNat = q.1 ∧ q.1 + k ≤ 1000000 ∧ q.2.length = q.1 * s := by
          unfold oldCells1
          refine (need_spec (AtIs.c ρ l0) hd.cap).bind ?_
          rintro _ ρ1 h1 w1 l1 ⟨rfl, hp1, c1⟩
          refine (need_spec (hd.cap.mono l1) (AtIs.c ρ1 _)).bind ?_
          rintro _ ρ2 h2 w2 l2 ⟨rfl, hp2, c2⟩
          have L2 := Env.le_trans l1 l2
          refine (mul_spec (hd.cap.mono L2) (AtIs.c ρ2 s)).bind ?_
          rintro e2 ρ3 h3 w3 l3 ⟨rfl, hp3, he2⟩
          have L3 := Env.le_trans L2 l3
          refine (need_spec he2 (AtIs.mono ⟨hin.2, rfl⟩ L3)).bind ?_
          rintro _ ρ4 h4 w4 l4 ⟨rfl, hp4, c4⟩
          have L4 := Env.le_trans L3 l4
          simp only [cmpB, decide_eq_true_eq, beq_iff_eq] at c1 c2 c4
          obtain ⟨zl, hzl⟩ := Int.eq_ofNat_of_zero_le h0
          obtain ⟨zc, hzc⟩ := Int.eq_ofNat_of_zero_le (Int.le_trans h0 c1)
          have e2v : (d.cap.den ρ.is * (s : Int)) = ((zc * s : Nat) : Int) := by rw [hzc]; exact (Int.natCast_mul zc s).symm
          have hsz : sz0.den ρ.is = ((zc * s : Nat) : Int) := by
            rw [← e2v]
            exact c4.symm
          subst hzl
          simp only [Int.toNat_natCast] at hle hsm ⊢
          have d1 : d.len.den ρ4.is = d.len.den ρ.is := (hd.len.mono L4).2
          have d2 : d.cap.den ρ4.is = d.cap.den ρ.is := (hd.cap.mono L4).2
          have hokt : SV.oks ρ.is.length ρ.bs.length (xs.take (zl * s)) = true := by have := oks_part (ni := ρ.is.length) (nb := ρ.bs.length) 0 (zl * s) hin.1; simpa using this
          have hden : SV.dens ρ4 (xs.take (zl * s)) = (SV.dens ρ xs).take (zl * s) := by
            obtain ⟨τ, rfl⟩ := L4
            rw [SV.dens_app _ hokt]
            simp [SV.dens_eq, List.map_take]
          have hxl : zl * s ≤ (SV.dens ρ xs).length := by rw [SV.dens_eq]; simpa using hle
          refine MSpec.ret ⟨rfl, by rw [hp4, hp3, hp2, hp1], SV.oks_mono (Env.le_len L4).1 (Env.le_len L4).2.2 _ hokt, ⟨?_, by rw [d1, hl0]; omega, ?_, ?_⟩, by rw [hl0]; rfl, hsm, by rw [List.length_take]; exact Nat.min_eq_left hle⟩
          · simp only [hden, d1, hl0, Int.toNat_natCast]
            by_cases hz : d.cap.den ρ.is = 0
            · have hz0 : zl = 0 := by omega
              subst hz0
              rcases hd.named hdn with ⟨hv, _⟩ | hv
              · left; exact ⟨hv, rfl, by simp⟩
              · right; left
                exact ⟨⟨(ρ.b n).1, (ρ.b n).2, none⟩, by rw [hv, hl0, hz]; rfl, rfl, by simp⟩
            · rcases hd.named hdn with ⟨_, hc0⟩ | hv
              · exact absurd hc0 hz
              · rw [hv, hl0, hzc, Int.toNat_natCast, Int.toNat_natCast, hh.1]
                exact hh.2.whole (n := zl) (cap := zc) (s := s) (k := zl * s) rfl hxl (by omega) (by omega) hsz
          · intro m hm _
            rw [hdn] at hm
            cases hm
            exact ⟨_, (blk_of_hp (by rw [hp4, hp3, hp2, hp1]) n).trans eb, List.mem_singleton.2 rfl⟩
          · intro m hm; rw [d2]; omega
        exact key r kk hk
      · exact hk.elim
    · exact hk.elim
end
end Go.Sx
