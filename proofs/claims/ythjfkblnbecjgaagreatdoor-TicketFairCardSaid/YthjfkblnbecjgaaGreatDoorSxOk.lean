/- Copying and clearing are sound; lengths and rooms; slices cut; zeros appended. -/
import Derived.Test.YthjfkblnbecjgaaGreatDoorSxOj
set_option linter.unusedVariables false
namespace Go.Sx
section
variable {Φ : Phi} {C : Ctx} {ρ : Env} {h : H} {w : World} {P : Program}

theorem copy_run {t t' ty elem : TypeId} {s : Nat} (eu : P.underlying t = some (.slice elem)) (es : sizeT P elem = some s) {a b : Addr} {dl dc sl sc : Nat} {news : List Value} (hl : news.length = Nat.min sl dl * s)
    (hnews : ∀ j v, news[j]? = some v → w.cell? (b.add j) = some v) {w' : World} (hst : (storeCells a news).run P w = .ok () w') :
    (Builtin.copy_ #[t, t'] ty #[.slice (some a) dl dc, .slice (some b) sl sc]).run P w = .ok (goInt (Nat.min sl dl)) w' := by
  have hf := run_firstCells_some (P := P) w s (Nat.min sl dl) b sl sc news hl hnews
  simp only [Builtin.copy_]
  simp [run_underlying eu, Builtin.lenOf, run_sizeOf' es, hf, hst]
theorem copy_run0 {t t' ty elem : TypeId} {s : Nat} (eu : P.underlying t = some (.slice elem)) (es : sizeT P elem = some s) {a b : Option Addr} {dl dc sl sc : Nat} (hab : a = none ∧ dl = 0 ∨ b = none ∧ sl = 0) :
    (Builtin.copy_ #[t, t'] ty #[.slice a dl dc, .slice b sl sc]).run P w = .ok (goInt 0) w := by
  have hl : ∀ b : Addr, (loadCells b 0).run P w = .ok #[] w := fun b => run_loadCells_list w b [] (fun j v h => by simp at h)
  rcases hab with ⟨rfl, rfl⟩ | ⟨rfl, rfl⟩
  · cases b <;> simp [Builtin.copy_, run_underlying eu, Builtin.lenOf, run_sizeOf' es, Builtin.firstCells, hl]
  · cases a <;> simp [Builtin.copy_, run_underlying eu, Builtin.lenOf, run_sizeOf' es, Builtin.firstCells, storeCells]

def CopyDoes (P : Program) (t t' : TypeId) (v u : Value) (w : World) : SV → Env → H → World → Prop := fun sv ρ' _ w' => ∃ z, SvIs ρ' sv z ∧ ∀ ty, (Builtin.copy_ #[t, t'] ty #[v, u]).run P w = .ok z w'
theorem copyGo_spec {t t' elem : TypeId} {s : Nat} (eu : P.underlying t = some (.slice elem)) (es : sizeT P elem = some s) {n m : Nat} {o dl p sl : At} {zo zd zp zs : Int} {dc sc : Nat} (hn : n < ρ.bs.length) (hm : m < ρ.bs.length)
    (ho : AtIs ρ o zo) (hd : AtIs ρ dl zd) (hp : AtIs ρ p zp) (hs : AtIs ρ sl zs) :
    MSpec Φ C (copyGo s n o dl m p sl) ρ h w (CopyDoes P t t' (.slice (some (ρ.at n o)) zd.toNat dc) (.slice (some (ρ.at m p)) zs.toNat sc) w) := by
  unfold copyGo
  refine (need_spec hd (AtIs.c ρ 0)).bind ?_
  rintro _ ρ1 h1 w1 l1 ⟨rfl, hp1, c1⟩
  refine (need_spec (hs.mono l1) (AtIs.c ρ1 0)).bind ?_
  rintro _ ρ2 h2 w2 l2 ⟨rfl, hp2, c2⟩
  simp only [cmpB, decide_eq_true_eq] at c1 c2
  have L2 := Env.le_trans l1 l2
  refine (mkI_ok (o := .mn sl dl) (okB2 (hs.mono L2).1 (hd.mono L2).1 (.mn sl dl) rfl rfl)).bind ?_
  rintro c ρ3 h3 w3 l3 ⟨rfl, hp3, hc⟩
  simp only [IOp.den, (hs.mono L2).val, (hd.mono L2).val] at hc
  have L3 := Env.le_trans L2 l3
  generalize hzc : (if zd < zs then zd else zs) = zc at hc
  have hcn : Nat.min zs.toNat zd.toNat = zc.toNat := by
    rw [← hzc]
    show min zs.toNat zd.toNat = _
    split <;> omega
  have hc0 : 0 ≤ zc := by rw [← hzc]; split <;> omega
  refine (mul_spec hc (AtIs.c ρ3 s)).bind ?_
  rintro cs ρ4 h4 w4 l4 ⟨rfl, hp4, hcs⟩
  have L4 := Env.le_trans L3 l4
  have natn : ∀ {ρ' : Env}, ρ.le ρ' → ρ'.at n o = ρ.at n o := fun {ρ'} l => at_mono l hn ho
  have natm : ∀ {ρ' : Env}, ρ.le ρ' → ρ'.at m p = ρ.at m p := fun {ρ'} l => at_mono l hm hp
  have nums : MSpec Φ C (do
        toArr m
        toArr n
        let q ← rdList m p cs
        putNums n o q cs : M Unit) ρ4 h4 w4 fun _ ρ' h' w' => (Builtin.copy_ #[t, t'] 0 #[.slice (some (ρ.at n o)) zd.toNat dc, .slice (some (ρ.at m p)) zs.toNat sc]).run P w4 = .ok (goInt zc.toNat) w' := by
    refine toArr_w.bind ?_
    rintro _ ρ5 h5 w5 l5 rfl
    refine toArr_w.bind ?_
    rintro _ ρ6 h6 w6 l6 rfl
    have L6 := Env.le_trans L4 (Env.le_trans l5 l6)
    have hcs6 := hcs.mono (Env.le_trans l5 l6)
    refine (rdList_spec (Nat.lt_of_lt_of_le hm (Env.le_len L6).2.2) (hp.mono L6) hcs6).bind ?_
    rintro q ρ7 h7 w7 l7 ⟨rfl, hp7, z0, z1, N, hN, hNl, hcells⟩
    have L7 := Env.le_trans L6 l7
    refine (putNums_spec (P := P) (Nat.lt_of_lt_of_le hn (Env.le_len L7).2.2) (ho.mono L7) (hcs6.mono l7) hN hNl).mono ?_
    rintro _ ρ8 h8 w8 l8 hst
    unfold Put at hst
    rw [natn L7] at hst
    rw [natm L6] at hcells
    have hNl' : N.length = zc.toNat * s := by rw [natMul hc0] at hNl; exact_mod_cast hNl
    have := copy_run (t' := t') (ty := 0) (dl := zd.toNat) (dc := dc) (sl := zs.toNat) (sc := sc) eu es (news := cellsOf q.1 N) (by rw [cellsOf_len, hNl', hcn]) hcells hst
    rw [hcn] at this
    exact this
  have mid : MSpec Φ C (fun h k => match h.fixed c with
    | some c0 => if isCells h n && decide (0 ≤ c0 ∧ c0 ≤ 1000000) then (do
        need .geq p (.c 0)
        let ys ← rdCells m p 0 (c0.toNat * s)
        putCells n o ys : M Unit) h k
      else (do
        toArr m
        toArr n
        let q ← rdList m p cs
        putNums n o q cs : M Unit) h k
    | none => (do
        toArr m
        toArr n
        let q ← rdList m p cs
        putNums n o q cs : M Unit) h k : M Unit) ρ4 h4 w4 fun _ ρ' h' w' => (Builtin.copy_ #[t, t'] 0 #[.slice (some (ρ.at n o)) zd.toNat dc, .slice (some (ρ.at m p)) zs.toNat sc]).run P w4 = .ok (goInt zc.toNat) w' := by
    refine MSpec.rep fun r4 => ?_
    intro r k hk
    simp only at hk
    split at hk
    · rename_i c0 ec
      have hcc := fixed_ok r4.fact ec
      rw [(hc.mono l4).val] at hcc
      subst hcc
      split at hk
      · have key : MSpec Φ C (do
          need .geq p (.c 0)
          let ys ← rdCells m p 0 (zc.toNat * s)
          putCells n o ys : M Unit) ρ4 h4 w4 fun _ ρ' h' w' => (Builtin.copy_ #[t, t'] 0 #[.slice (some (ρ.at n o)) zd.toNat dc, .slice (some (ρ.at m p)) zs.toNat sc]).run P w4 = .ok (goInt zc.toNat) w' := by
          refine (need_spec (hp.mono L4) (AtIs.c ρ4 0)).bind ?_
          rintro _ ρ5 h5 w5 l5 ⟨rfl, hp5, c5⟩
          simp only [cmpB, decide_eq_true_eq] at c5
          have L5 := Env.le_trans L4 l5
          refine (rdCells_spec (Nat.lt_of_lt_of_le hm (Env.le_len L5).2.2) (hp.mono L5) c5 0 (zc.toNat * s)).bind ?_
          rintro ys ρ6 h6 w6 l6 ⟨rfl, hp6, hys, hysl, hcells⟩
          have L6 := Env.le_trans L5 l6
          refine (putCells_spec (P := P) (Nat.lt_of_lt_of_le hn (Env.le_len L6).2.2) (ho.mono L6) hys).mono ?_
          rintro _ ρ8 h8 w8 l8 hst
          unfold Put at hst
          rw [natn L6] at hst
          rw [natm L5] at hcells
          have := copy_run (t' := t') (ty := 0) (dl := zd.toNat) (dc := dc) (sl := zs.toNat) (sc := sc) eu es (news := SV.dens ρ6 ys) (by rw [SV.dens_eq, List.length_map, hysl, hcn]) (fun j v hj => by have := hcells j v hj; rw [Nat.zero_add] at this; exact this) hst
          rw [hcn] at this
          exact this
        exact key r k hk
      · exact nums r k hk
    · exact nums r k hk
  refine mid.bind ?_
  rintro _ ρ5 h5 w5 l5 hrun
  refine MSpec.ret ⟨.int .i64 zc, ((hc.mono l4).mono l5).svi, fun ty => ?_⟩
  have e : goInt zc.toNat = .int .i64 zc := by simp [goInt, Int.toNat_of_nonneg hc0]
  rw [← e]
  exact hrun
theorem copyM_spec {t t' : TypeId} {x y : SV} {v u : Value} (hx : SvIs ρ x v) (hy : SvIs ρ y u) : MSpec Φ C (copyM P t x y) ρ h w (CopyDoes P t t' v u w) := by
  intro r k hk
  unfold copyM at hk
  split at hk
  · rename_i elem eu
    split at hk
    · rename_i s n o dl dc m p sl sc es
      obtain ⟨hn, ho, hd, _, rfl⟩ := hx.slc
      obtain ⟨hm, hp, hs, _, rfl⟩ := hy.slc
      exact copyGo_spec eu es hn hm ho hd hp hs r k hk
    · rename_i s n o dl dc es
      obtain ⟨hn, ho, hd, _, rfl⟩ := hx.slc
      obtain rfl := hy.nils
      exact ⟨_, ρ, h, w, Env.le_refl ρ, r, hk, _, (AtIs.c ρ 0).svi, fun ty => copy_run0 eu es (.inr ⟨rfl, rfl⟩)⟩
    · rename_i s es
      obtain rfl := hx.nils
      obtain rfl := hy.nils
      exact ⟨_, ρ, h, w, Env.le_refl ρ, r, hk, _, (AtIs.c ρ 0).svi, fun ty => copy_run0 eu es (.inl ⟨rfl, rfl⟩)⟩
    · rename_i s m p sl sc es
      obtain rfl := hx.nils
      obtain ⟨hm, hp, hs, _, rfl⟩ := hy.slc
      exact ⟨_, ρ, h, w, Env.le_refl ρ, r, hk, _, (AtIs.c ρ 0).svi, fun ty => copy_run0 eu es (.inl ⟨rfl, rfl⟩)⟩
    · exact hk.elim
  · exact hk.elim

def ClearDoes (P : Program) (t : TypeId) (v : Value) (w : World) : SV → Env → H → World → Prop := fun sv ρ' _ w' => ∃ z, SvIs ρ' sv z ∧ ∀ ty, (Builtin.clear_ #[t] ty #[v]).run P w = .ok z w'
theorem clearM_spec {t : TypeId} {x : SV} {v : Value} (hx : SvIs ρ x v) : MSpec Φ C (clearM P t x) ρ h w (ClearDoes P t v w) := by
  refine MSpec.rep fun r0 => ?_
  intro r k hk
  unfold clearM at hk
  split at hk
  · rename_i elem eu
    obtain rfl := hx.nils
    exact ⟨_, ρ, h, w, Env.le_refl ρ, r, hk, .tuple #[], ⟨rfl, by simp [SV.den, SV.dens]⟩, fun ty => by simp [Builtin.clear_, run_underlying eu]⟩
  · rename_i elem n o l c eu
    obtain ⟨hn, ho, hl, _, rfl⟩ := hx.slc
    split at hk
    · rename_i s zs es ez
      split at hk
      · rename_i hc
        obtain ⟨hzl, hs⟩ := hc
        obtain ⟨z, ez', hzo, hzc⟩ := zeroCellsT_is ez w
        split at hk
        · rename_i l0 el
          have hl0 := fixed_ok r0.fact el
          split at hk
          · rename_i hc2
            simp only [Bool.and_eq_true, decide_eq_true_eq] at hc2
            have key : MSpec Φ C (do putCells n o (repeatZ zs l0.toNat); pure (.tup []) : M SV) ρ h w (ClearDoes P t (.slice (some (ρ.at n o)) (l.den ρ.is).toNat (c.den ρ.is).toNat) w) := by
              refine (putCells_spec (P := P) hn ho (repeatZ_ok (hzo ρ) l0.toNat)).bind ?_
              rintro _ ρ1 h1 w1 l1 hst
              refine MSpec.ret ⟨.tuple #[], ⟨rfl, by simp [SV.den, SV.dens]⟩, fun ty => ?_⟩
              unfold Put at hst
              obtain ⟨kk, hkk⟩ : ∃ kk, (l.den ρ.is).toNat = kk + 1 := ⟨(l.den ρ.is).toNat - 1, by omega⟩
              have hzz : (Builtin.zeroCells z.cells (kk + 1)).toList = SV.dens ρ (repeatZ zs l0.toNat) := by
                have e1 : l0.toNat = kk + 1 := by rw [← hl0]; exact hkk
                have hsz : z.cells.size = s := by rw [hzc ρ]; simp [SV.dens_eq, hzl]
                have := repeatZ_dens (ρ := ρ) (n := kk + 1) hzl hs
                rw [e1]
                unfold Builtin.zeroCells
                rw [hzc ρ] at hsz ⊢
                rw [hsz]
                have e2 : (SV.dens ρ zs).toArray.size = s := hsz
                rw [e2] at this
                rw [this]
              have hrun : (do storeCells (ρ.at n o) (Builtin.zeroCells (← zeroValue elem).cells (kk + 1)).toList : Sem Unit).run P w = .ok () w1 := by
                simp only [Sem.run_bind, run_zeroValue' ez', Result.andThen_ok]
                rw [hzz]; exact hst
              rw [hkk]
              simp only [Builtin.clear_]
              simp only [Sem.run_bind, run_zeroValue' ez', Result.andThen_ok] at hrun
              simp [run_underlying eu, run_zeroValue' ez', hrun]
            exact key r k hk
          · exact hk.elim
        · exact hk.elim
      · exact hk.elim
    · exact hk.elim
  · exact hk.elim
end
end Go.Sx
