/- Lengths and rooms of slices that may be nil; slices cut; zeros appended. -/
import Derived.Test.YthjfkblnbecjgaaGreatDoorSxOk
set_option linter.unusedVariables false
namespace Go.Sx

def vecLen (n : Nat) (len cap : At) : M At := fun h k =>
  if vecFact h n len cap then (do need .geq len (.c 0); pure len : M At) h k
  else (do need .geq len (.c 0); mkI (.pick cap len (.c 0)) : M At) h k
/-- A slice that is nil, or one with a place. -/
def asSlc (x : SV) : M SV :=
  match x with
  | .vec n len cap => do
    let e ← mkI (.cmp .eql cap (.c 0))
    let b ← dec e
    if b then pure .nils else pure (.slc n (.c 0) len cap)
  | x => pure x
def capM (x : SV) : M SV :=
  match x with
  | .nils => pure (.i .i64 (.c 0))
  | .slc _ _ _ c => do
    need .geq c (.c 0)
    pure (.i .i64 c)
  | .vec _ _ c => do
    need .geq c (.c 0)
    pure (.i .i64 c)
  | _ => M.no 450
/-- x[lo:hi:max] -/
def slice3M (P : Program) (ev : Operand → Option SV) (t : TypeId) (x : SV) (lo : Option Operand) (hi mx : Operand) : M SV :=
  match P.underlying t, x with
  | some (.slice elem), .slc n o len cap => (match bndS ev (.c 0) lo, bndS ev len (some hi), bndS ev cap (some mx) with
    | some l, some h, some m => do
      need .leq m cap
      cutM P elem n o m l h
    | _, _, _ => M.no 451)
  | _, _ => M.no 452
def sliceV (P : Program) (ev : Operand → Option SV) (t : TypeId) (x : SV) (lo hi mx : Option Operand) : M SV :=
  match hi, mx with
  | some hi, some mx => slice3M P ev t x lo hi mx
  | _, _ => do
    let y ← asSlc x
    sliceM P ev t y lo hi mx
def chkZero (ks : List CK) (s : Nat) (qs : List CK) : M Unit := if qs = oneKind ks ∧ s % qs.length = 0 then pure () else M.no 460
/-- Appending zeros where there is no room for them. -/
def zerosM (P : Program) (t t' : TypeId) (x : SV) (a : At) : M SV := fun h k =>
  match P.underlying t, P.underlying t', x with
  | some (.slice elem), some (.int _), .slc n o len cap => (match sizeT P elem, zeroCellsT P elem, P.info? elem with
    | some s, some zs, some inf => (match zeroKinds zs with
      | some ks => if h.zeroAt o ∧ zs.length = s ∧ 0 < s ∧ inf.bytes ≤ 1000 then (do
          need .geq a (.c 0)
          need .leq a (.c 1000000)
          need .geq len (.c 0)
          need .geq cap (.c 0)
          let need' ← mkI (.add len a)
          need .leq need' At.small
          need .gtr need' cap
          let ls ← mkI (.mul len (.c s))
          toArr n
          let q ← rdList n o ls
          let as ← mkI (.mul a (.c s))
          let z ← mkL (.rep as (.c 0))
          let l ← mkL (.app q.2 z)
          chkZero ks s q.1
          let cap' ← anyI need' (.c 9223372036854775807)
          let bl ← mkI (.mul need' (.c s))
          let sz ← mkI (.mul cap' (.c s))
          fun h kk => growTo .nil (.slc h.nb (.c 0) need' cap') (.arr q.1 l bl sz elem) h kk : M SV) h k else .fail 461
      | none => .fail 462)
    | _, _, _ => .fail 463)
  | _, _, _ => .fail 464

section
variable {Φ : Phi} {C : Ctx} {ρ : Env} {h : H} {w : World} {P : Program}
theorem vecLen_spec {n : Nat} {len cap : At} {zl zc : Int} (hl : AtIs ρ len zl) (hc : AtIs ρ cap zc) : MSpec Φ C (vecLen n len cap) ρ h w fun a ρ' h' w' => w' = w ∧ h'.hp = h.hp ∧ 0 ≤ zl ∧ AtIs ρ' a (if zc = 0 then 0 else zl) := by
  refine MSpec.rep fun r0 => ?_
  intro r k hk
  unfold vecLen at hk
  split at hk
  · rename_i e
    have key : MSpec Φ C (do need .geq len (.c 0); pure len : M At) ρ h w fun a ρ' h' w' => w' = w ∧ h'.hp = h.hp ∧ 0 ≤ zl ∧ AtIs ρ' a (if zc = 0 then 0 else zl) := by
      refine (need_spec hl (AtIs.c ρ 0)).bind ?_
      rintro _ ρ1 h1 w1 l1 ⟨rfl, hp1, c1⟩
      simp only [cmpB, decide_eq_true_eq] at c1
      refine MSpec.ret ⟨rfl, hp1, c1, ?_⟩
      split
      · rename_i hz
        have := vecFact_ok r0.fact e (by rw [hc.val]; exact hz)
        rw [hl.val] at this
        subst this
        exact hl.mono l1
      · exact hl.mono l1
    exact key r k hk
  · have key : MSpec Φ C (do need .geq len (.c 0); mkI (.pick cap len (.c 0)) : M At) ρ h w fun a ρ' h' w' => w' = w ∧ h'.hp = h.hp ∧ 0 ≤ zl ∧ AtIs ρ' a (if zc = 0 then 0 else zl) := by
      refine (need_spec hl (AtIs.c ρ 0)).bind ?_
      rintro _ ρ1 h1 w1 l1 ⟨rfl, hp1, c1⟩
      simp only [cmpB, decide_eq_true_eq] at c1
      refine (mkI_ok (okB3 (hc.mono l1).1 (hl.mono l1).1 rfl (.pick cap len (.c 0)) rfl rfl)).mono ?_
      rintro a ρ2 h2 w2 l2 ⟨rfl, hp2, ha⟩
      simp only [IOp.den, (hc.mono l1).val, (hl.mono l1).val, At.den_c] at ha
      exact ⟨rfl, by rw [hp2, hp1], c1, ha⟩
    exact key r k hk
theorem asSlc_spec {x : SV} {v : Value} (hx : SvIs ρ x v) : MSpec Φ C (asSlc x) ρ h w fun y ρ' h' w' => w' = w ∧ h'.hp = h.hp ∧ SvIs ρ' y v := by
  unfold asSlc
  split
  · rename_i n len cap
    obtain ⟨hn, hl, hc, rfl⟩ := hx.vec
    refine (cmp_spec (op := .eql) hc (AtIs.c ρ 0)).bind ?_
    rintro e ρ1 h1 w1 l1 ⟨rfl, hp1, he⟩
    refine (dec_spec he).bind ?_
    rintro b ρ2 h2 w2 l2 ⟨rfl, hp2, hbb⟩
    have L2 := Env.le_trans l1 l2
    have hbe : (cap.den ρ.is == 0) = b := by rw [← hbb]; cases hq : (cap.den ρ.is == 0) <;> simp [cmpB, b2i, hq]
    cases b with
    | true =>
      have hz : cap.den ρ.is = 0 := by simpa using hbe
      exact MSpec.ret ⟨rfl, by rw [hp2, hp1], rfl, by rw [if_pos hz]; rfl⟩
    | false =>
      have hz : ¬ cap.den ρ.is = 0 := by simpa using hbe
      refine MSpec.ret ⟨rfl, by rw [hp2, hp1], ?_, ?_⟩
      · simp only [SV.ok, Bool.and_eq_true, decide_eq_true_eq]
        exact ⟨Nat.lt_of_lt_of_le hn (Env.le_len L2).2.2, rfl, (hl.mono L2).1, (hc.mono L2).1⟩
      · have hb : ρ2.b n = ρ.b n := by obtain ⟨τ, rfl⟩ := L2; exact Env.b_app hn
        rw [if_neg hz]
        simp [SV.den, Env.at, hb, (hl.mono L2).2, (hc.mono L2).2]
  · exact MSpec.ret ⟨rfl, rfl, hx⟩
theorem capM_spec {t ty : TypeId} {elem : TypeId} (eu : P.underlying t = some (.slice elem)) {x : SV} {v : Value} (hx : SvIs ρ x v) : MSpec Φ C (capM x) ρ h w (DoesV P w h (Builtin.cap_ #[t] ty #[v])) := by
  unfold capM
  split
  · obtain rfl := hx.nils
    exact MSpec.ret ⟨rfl, rfl, _, (AtIs.c ρ 0).svi, fun W => by simp [Builtin.cap_, run_underlying eu, goInt]⟩
  · obtain ⟨_, _, _, hc, rfl⟩ := hx.slc
    refine (need_spec hc (AtIs.c ρ 0)).bind ?_
    rintro _ ρ1 h1 w1 l1 ⟨rfl, hp1, c1⟩
    simp only [cmpB, decide_eq_true_eq] at c1
    exact MSpec.ret ⟨rfl, hp1, _, (hc.mono l1).svi, fun W => by simp [Builtin.cap_, run_underlying eu, goInt, Int.toNat_of_nonneg c1]⟩
  · rename_i n l c
    obtain ⟨_, _, hc, rfl⟩ := hx.vec
    refine (need_spec hc (AtIs.c ρ 0)).bind ?_
    rintro _ ρ1 h1 w1 l1 ⟨rfl, hp1, c1⟩
    simp only [cmpB, decide_eq_true_eq] at c1
    refine MSpec.ret ⟨rfl, hp1, _, (hc.mono l1).svi, fun W => ?_⟩
    by_cases hz : c.den ρ.is = 0
    · simp [Builtin.cap_, run_underlying eu, goInt, hz]
    · simp [Builtin.cap_, run_underlying eu, goInt, hz, Int.toNat_of_nonneg c1]
  · exact MSpec.no
theorem bounds3_run {isSlice : Bool} {len cap : Nat} {lo : Option Value} {l h m : Int} {k1 k2 : IntKind} (hl : BndIs lo 0 l) (h0 : 0 ≤ l) (h1 : l ≤ h) (h2 : h ≤ m) (h3 : m ≤ cap) (w : World) :
    (Instr.sliceBounds isSlice len cap lo (some (.int k1 h)) (some (.int k2 m))).run P w = .ok (l.toNat, h.toNat, m.toNat) w := by
  have em : (m.toNat : Int) = m := Int.toNat_of_nonneg (by omega)
  have eh : (h.toNat : Int) = h := Int.toNat_of_nonneg (by omega)
  have g1 : 0 ≤ m := by omega
  have g2 : 0 ≤ h := by omega
  rcases hl with ⟨rfl, rfl⟩ | ⟨kl, rfl⟩ <;> simp [Instr.sliceBounds, Instr.sliceBound, asIntOf, *]
theorem slice3M_spec {sl : Slots} {a : Act} (r : RepS ρ sl a) {t : TypeId} {x : SV} {v : Value} (hx : SvIs ρ x v) (lo : Option Operand) (hi mx : Operand) :
    MSpec Φ C (slice3M P (evalO sl) t x lo hi mx) ρ h w (DoesV P w h (Instr.sliceAt t v (lo.map a.eval) (some (a.eval hi)) (some (a.eval mx)))) := by
  unfold slice3M
  split
  · rename_i elem n o len cap eu
    obtain ⟨hn, ho, hl, hc, rfl⟩ := hx.slc
    split
    · rename_i l h' m el eh em
      obtain ⟨zl, hl', bl⟩ := bndS_is r (AtIs.c ρ 0) el
      obtain ⟨zh, hh', bh⟩ := bndS_is r hl eh
      obtain ⟨zm, hm', bm⟩ := bndS_is r hc em
      obtain ⟨k1, hk1⟩ : ∃ k, a.eval hi = .int k zh := by
        rcases bh with ⟨h1, _⟩ | ⟨k, h1⟩
        · cases h1
        · exact ⟨k, by simpa using h1⟩
      obtain ⟨k2, hk2⟩ : ∃ k, a.eval mx = .int k zm := by
        rcases bm with ⟨h1, _⟩ | ⟨k, h1⟩
        · cases h1
        · exact ⟨k, by simpa using h1⟩
      refine (need_spec hm' hc).bind ?_
      rintro _ ρ1 h1 w1 l1 ⟨rfl, hp1, c1⟩
      simp only [cmpB, decide_eq_true_eq] at c1
      refine (cutM_spec (P := P) (Nat.lt_of_lt_of_le hn (Env.le_len l1).2.2) (by have := ho.mono l1; exact ⟨this.1, rfl⟩) (hm'.mono l1) (hl'.mono l1) (hh'.mono l1)).mono ?_
      rintro sv ρ2 h2 w2 l2 ⟨rfl, hp2, d1, d2, d3, s, es, hs⟩
      refine ⟨rfl, by rw [hp2, hp1], _, hs, fun W => ?_⟩
      rw [at_mono l1 hn ho]
      have b3 := bounds3_run (P := P) (isSlice := true) (len := (len.den ρ.is).toNat) (cap := (cap.den ρ.is).toNat) (k1 := k1) (k2 := k2) bl d1 d2 d3 (by omega) W
      simp [Instr.sliceAt, run_underlying eu, Instr.slice, hk1, hk2, b3, run_sizeOf' es, cutV]
      split <;> rfl
    · exact MSpec.no
  · exact MSpec.no
theorem sliceV_spec {sl : Slots} {a : Act} (r : RepS ρ sl a) {t : TypeId} {x : SV} {v : Value} (hx : SvIs ρ x v) (lo hi mx : Option Operand) :
    MSpec Φ C (sliceV P (evalO sl) t x lo hi mx) ρ h w (DoesV P w h (Instr.sliceAt t v (lo.map a.eval) (hi.map a.eval) (mx.map a.eval))) := by
  unfold sliceV
  split
  · exact slice3M_spec r hx lo _ _
  · refine (asSlc_spec hx).bind ?_
    rintro y ρ1 h1 w1 l1 ⟨rfl, hp1, hy⟩
    refine (sliceM_spec (P := P) (r.mono l1) hy lo hi mx).mono ?_
    rintro sv ρ2 h2 w2 l2 ⟨rfl, hp2, z, hz, hr⟩
    exact ⟨rfl, by rw [hp2, hp1], z, hz, hr⟩

theorem run_append_zeros {t t' ty e : TypeId} {i : TypeInfo} {z : Value} {kk k0 : IntKind} (ht : P.underlying t = some (.slice e)) (ht' : P.underlying t' = some (.int k0)) (hi : P.info? e = some i) (hz : i.zero = some z) (hb : i.bytes ≤ 1000) (hs : 0 < i.size)
    {b : Addr} {sLen sCap n : Nat} {olds : List Value} (hlo : olds.length = sLen * i.size) (holds : ∀ j v, olds[j]? = some v → w.cell? (b.add j) = some v) (hg : sCap < sLen + n) (hsm : sLen + n ≤ 1000000) :
    (Builtin.append_ #[t, t'] ty #[.slice (some b) sLen sCap, .int kk n]).run P w =
      .ok (.slice (some ⟨w.heap.size, 0, none⟩) (sLen + n) (grownCap w (sLen + n) sCap e))
        (w.drew.alloc (.cells (olds.toArray ++ (if n * i.size = 0 then #[] else Builtin.zeroCells z.cells n) ++ Builtin.zeroCells z.cells (grownCap w (sLen + n) sCap e - (sLen + n))) e)) := by
  have hw : IntKind.i64.wrap (n : Int) = n := wrap_small (by omega) (by omega) rfl
  have h0 : ¬ ((n : Int) < 0) := by omega
  have h2 : ¬ ((n : Int) * (i.bytes : Int) > 2 ^ 48) := by
    have : (n : Int) * (i.bytes : Int) ≤ 1000000 * 1000 := Int.mul_le_mul (by omega) (by omega) (by omega) (by omega)
    omega
  have hn : ¬ (sLen + n ≤ sCap) := by omega
  have h63' : ¬ (9223372036854775807 < ((sLen : Int) + (n : Int))) := by omega
  have hb2 : (sLen + n) * i.bytes ≤ 140737488355328 := by
    have := Nat.mul_le_mul hsm hb
    omega
  have h48 := growslice_fits hg hb2
  have h48' : ¬ (281474976710656 < Builtin.nextslicecap (sLen + n) sCap * i.bytes) := by omega
  have hfo := run_firstCells_some (P := P) w.drew i.size sLen b sLen sCap olds hlo (by simpa using holds)
  have h2' : ¬ (281474976710656 < (n : Int) * (i.bytes : Int)) := by omega
  simp [Builtin.append_, run_underlying ht, run_underlying ht', sizeOf, typeInfo, zeroValue, hi, hz, asInt, asIntOf, hw, h0, h2', hn, h63', h48', Question.forced, hfo, newRow, grownCap]
  by_cases hns : n * i.size = 0
  · simp only [if_pos hns, Array.empty_append]
  · simp only [if_neg hns]
def ZerosDo (P : Program) (t t' : TypeId) (v u : Value) (w : World) : SV → Env → H → World → Prop := fun sv ρ' _ w' => ∃ z, SvIs ρ' sv z ∧ ∀ ty, (Builtin.append_ #[t, t'] ty #[v, u]).run P w = .ok z w'
theorem zerosM_spec {t t' : TypeId} {x : SV} {v : Value} {a : At} {za : Int} {k : IntKind} (hx : SvIs ρ x v) (ha : AtIs ρ a za) : MSpec Φ C (zerosM P t t' x a) ρ h w (ZerosDo P t t' v (.int k za) w) := by
  refine MSpec.rep fun r0 => ?_
  intro r kk hk
  unfold zerosM at hk
  split at hk
  · rename_i elem k0 n o len cap eu eu'
    obtain ⟨hn, ho, hl, hc, rfl⟩ := hx.slc
    split at hk
    · rename_i s zs inf es ez ei
      split at hk
      · rename_i ks ek
        split at hk
        · rename_i hcond
          obtain ⟨hz0, hzl, hs, hb⟩ := hcond
          obtain ⟨hsz, z, hz, hzs⟩ := elemInfo es ez ei hzl
          have ho0 := zeroAt_ok r0.fact hz0
          have hks := zeroKinds_ok ek
          obtain ⟨z', ez', _, hzc⟩ := zeroCellsT_is ez w
          have hzz : z' = z := by
            unfold zeroT at ez'
            rw [ei] at ez'
            simp only [Option.bind_some] at ez'
            rw [hz] at ez'
            exact (Option.some.inj ez').symm
          subst hzz
          have key : MSpec Φ C (do
              need .geq a (.c 0)
              need .leq a (.c 1000000)
              need .geq len (.c 0)
              need .geq cap (.c 0)
              let need' ← mkI (.add len a)
              need .leq need' At.small
              need .gtr need' cap
              let ls ← mkI (.mul len (.c s))
              toArr n
              let q ← rdList n o ls
              let as ← mkI (.mul a (.c s))
              let z ← mkL (.rep as (.c 0))
              let l ← mkL (.app q.2 z)
              chkZero ks s q.1
              let cap' ← anyI need' (.c 9223372036854775807)
              let bl ← mkI (.mul need' (.c s))
              let sz ← mkI (.mul cap' (.c s))
              fun h kk => growTo .nil (.slc h.nb (.c 0) need' cap') (.arr q.1 l bl sz elem) h kk : M SV) ρ h w (ZerosDo P t t' (.slice (some (ρ.at n o)) (len.den ρ.is).toNat (cap.den ρ.is).toNat) (.int k za) w) := by
            refine (need_spec ha (AtIs.c ρ 0)).bind ?_
            rintro _ ρ1 h1 w1 l1 ⟨rfl, hp1, c1⟩
            refine (need_spec (ha.mono l1) (AtIs.c ρ1 1000000)).bind ?_
            rintro _ ρ2 h2 w2 l2 ⟨rfl, hp2, c2⟩
            have L2 := Env.le_trans l1 l2
            refine (need_spec (hl.mono L2) (AtIs.c ρ2 0)).bind ?_
            rintro _ ρ3 h3 w3 l3 ⟨rfl, hp3, c3⟩
            have L3 := Env.le_trans L2 l3
            refine (need_spec (hc.mono L3) (AtIs.c ρ3 0)).bind ?_
            rintro _ ρ4 h4 w4 l4 ⟨rfl, hp4, c4⟩
            have L4 := Env.le_trans L3 l4
            refine (add_spec (hl.mono L4) (ha.mono L4)).bind ?_
            rintro na ρ5 h5 w5 l5 ⟨rfl, hp5, hna⟩
            have L5 := Env.le_trans L4 l5
            refine (need_spec hna (AtIs.c ρ5 1000000)).bind ?_
            rintro _ ρ6 h6 w6 l6 ⟨rfl, hp6, c6⟩
            have L6 := Env.le_trans L5 l6
            refine (need_spec (hna.mono l6) (hc.mono L6)).bind ?_
            rintro _ ρ7 h7 w7 l7 ⟨rfl, hp7, c7⟩
            have L7 := Env.le_trans L6 l7
            simp only [cmpB, decide_eq_true_eq] at c1 c2 c3 c4 c6 c7
            refine (mul_spec (hl.mono L7) (AtIs.c ρ7 s)).bind ?_
            rintro ls ρ8 h8 w8 l8 ⟨rfl, hp8, hls⟩
            have L8 := Env.le_trans L7 l8
            refine toArr_w.bind ?_
            rintro _ ρ9 h9 w9 l9 rfl
            have L9 := Env.le_trans L8 l9
            refine (rdList_spec (Nat.lt_of_lt_of_le hn (Env.le_len L9).2.2) (ho.mono L9) (hls.mono l9)).bind ?_
            rintro q ρ10 h10 w10 l10 ⟨rfl, hp10, z0, z1, N, hN, hNl, hcells⟩
            have L10 := Env.le_trans L9 l10
            rw [at_mono L9 hn ho] at hcells
            refine (mul_spec (ha.mono L10) (AtIs.c ρ10 s)).bind ?_
            rintro as ρ11 h11 w11 l11 ⟨rfl, hp11, has⟩
            refine (mkL_ok (o := .rep as (.c 0)) (by simp only [LOp.okB, has.1, Bool.true_and]; rfl)).bind ?_
            rintro zl ρ12 h12 w12 l12 ⟨rfl, hp12, hzl'⟩
            have hN12 := (hN.mono l11).mono l12
            refine (mkL_ok (okB_app hN12.1 hzl'.1)).bind ?_
            rintro lf ρ13 h13 w13 l13 ⟨rfl, hp13, hlf⟩
            simp only [LOp.den, has.val, At.den_c] at hzl'
            simp only [LOp.den, hN12.2, hzl'.2] at hlf
            have chk : MSpec Φ C (chkZero ks s q.1) ρ13 h13 w13 fun _ ρ' h' w' => w' = w13 ∧ q.1 = oneKind ks ∧ s % q.1.length = 0 := by
              unfold chkZero
              split
              · rename_i hc; exact MSpec.ret ⟨rfl, hc⟩
              · exact MSpec.no
            refine chk.bind ?_
            rintro _ ρ14 h14 w14 l14 ⟨rfl, hqk, hqs⟩
            have L14 := Env.le_trans L10 (Env.le_trans l11 (Env.le_trans l12 (Env.le_trans l13 l14)))
            have hna14 : AtIs ρ14 na (len.den ρ.is + za) := hna.mono (Env.le_trans l6 (Env.le_trans l7 (Env.le_trans l8 (Env.le_trans l9 (Env.le_trans l10 (Env.le_trans l11 (Env.le_trans l12 (Env.le_trans l13 l14))))))))
            have hlf14 := hlf.mono l14
            have hNl' : N.length = (len.den ρ.is).toNat * s := by rw [natMul c3] at hNl; exact_mod_cast hNl
            have hks0 : 0 < ks.length := by rw [hks.1, hzl]; exact hs
            have hzeros : Builtin.zeroCells z'.cells za.toNat = (cellsOf q.1 (List.replicate (za.toNat * s) 0)).toArray := by
              have e1 : z'.cells.size = s := by rw [hzs, hsz]
              unfold Builtin.zeroCells
              rw [e1]
              have := zero_cells (z := z'.cells) (ks := ks) (by rw [hzc Env.nil, hks.2]) hks0 (za.toNat * s)
              rw [e1] at this
              rw [this, hqk]
            have eza : ((za.toNat : Nat) : Int) = za := Int.toNat_of_nonneg c1
            have hrun : ∀ ty, _ := fun ty => run_append_zeros (P := P) (w := w14) (ty := ty) (kk := k) (n := za.toNat) eu eu' ei hz hb (by omega) (b := ρ.at n o) (sLen := (len.den ρ.is).toNat) (sCap := (cap.den ρ.is).toNat) (olds := cellsOf q.1 N) (by rw [cellsOf_len, hNl', hsz]) hcells (by omega) (by omega)
            rw [eza] at hrun
            have hif : (if za.toNat * inf.size = 0 then (#[] : Array Value) else Builtin.zeroCells z'.cells za.toNat) = (cellsOf q.1 (List.replicate (za.toNat * s) 0)).toArray := by
              split
              · rename_i h0
                rw [hsz] at h0
                rw [h0]; simp [cellsOf]
              · exact hzeros
            rw [hif] at hrun
            generalize hgc : grownCap w14 ((len.den ρ.is).toNat + za.toNat) (cap.den ρ.is).toNat elem = gc at hrun
            have hge : (len.den ρ.is).toNat + za.toNat ≤ gc := by rw [← hgc]; exact grownCap_ge _ _ _ _
            have hle : gc ≤ 9223372036854775807 := by
              rw [← hgc]
              have := grownCap_le_maxLen w14 ((len.den ρ.is).toNat + za.toNat) (cap.den ρ.is).toNat elem (by simp only [maxLen]; omega)
              simpa [maxLen] using this
            have happ : cellsOf q.1 (N ++ List.replicate (za.toNat * s) 0) = cellsOf q.1 N ++ cellsOf q.1 (List.replicate (za.toNat * s) 0) := cellsOf_app (.inr (by rw [hNl', Nat.mul_mod, hqs, Nat.mul_zero, Nat.zero_mod]))
            have hlenA : (N ++ List.replicate (za.toNat * s) 0).length = ((len.den ρ.is).toNat + za.toNat) * s := by rw [List.length_append, List.length_replicate, hNl', Nat.add_mul]
            generalize hO : Obj.cells ((cellsOf q.1 N).toArray ++ (cellsOf q.1 (List.replicate (za.toNat * s) 0)).toArray ++ Builtin.zeroCells z'.cells (gc - ((len.den ρ.is).toNat + za.toNat))) elem = ob at hrun
            have G : Grown w14 (w14.drew.alloc ob) elem s (.slice none 0 0) w14.heap.size gc ((len.den ρ.is).toNat + za.toNat) ([] ++ cellsOf q.1 (N ++ List.replicate (za.toNat * s) 0)) := by
              rw [List.nil_append]
              refine ⟨⟨(Builtin.zeroCells z'.cells (gc - ((len.den ρ.is).toNat + za.toNat))).toList, ?_, ?_⟩, by rw [cellsOf_len, hlenA], hge, hle, ⟨rfl, rfl, rfl, by simp, fun k hk _ => heap_alloc_old w14.drew _ k hk⟩, .inl (Nat.le_refl _)⟩
              · rw [← hO]
                have := heap_alloc_new w14.drew (Obj.cells ((cellsOf q.1 N).toArray ++ (cellsOf q.1 (List.replicate (za.toNat * s) 0)).toArray ++ Builtin.zeroCells z'.cells (gc - ((len.den ρ.is).toNat + za.toNat))) elem)
                rw [show w14.heap.size = w14.drew.heap.size from rfl, this, happ]
                congr 2
                apply Array.ext'
                simp
              · rw [cellsOf_len, hlenA, Array.length_toList, size_zeroCells, hzs, hsz, ← Nat.add_mul]
                congr 1
                omega
            refine (anyI_spec (x := (gc : Int)) hna14 (AtIs.c ρ14 _) (by omega) (by omega)).bind ?_
            rintro ca ρ15 h15 w15 l15 ⟨rfl, hp15, hca⟩
            refine (mul_spec (hna14.mono l15) (AtIs.c ρ15 s)).bind ?_
            rintro bl ρ16 h16 w16 l16 ⟨rfl, hp16, hbl⟩
            refine (mul_spec (hca.mono l16) (AtIs.c ρ16 s)).bind ?_
            rintro sz ρ17 h17 w17 l17 ⟨rfl, hp17, hsza⟩
            have L17 := Env.le_trans l15 (Env.le_trans l16 l17)
            have hlf17 := hlf14.mono L17
            have hbl17 := hbl.mono l17
            have le17 := Env.le_app ρ17 ⟨[], [], [(w17.heap.size, 0)]⟩
            have hszv : sz.den (ρ17.app ⟨[], [], [(w17.heap.size, 0)]⟩).is = ((gc * s : Nat) : Int) := by rw [(hsza.mono le17).2]; exact (Int.natCast_mul gc s).symm
            have hgc0 : 0 < gc * s := Nat.mul_pos (by omega) hs
            have hna17 : AtIs ρ17 na (((len.den ρ.is).toNat + za.toNat : Nat) : Int) := by
              have e : ((len.den ρ.is).toNat + za.toNat : Nat) = (len.den ρ.is + za) := by omega
              rw [e]; exact hna14.mono L17
            refine MSpec.rep fun r17 => ?_
            have hbat : (ρ17.app ⟨[], [], [(w17.heap.size, 0)]⟩).b h17.nb = (w17.heap.size, 0) := by rw [← r17.nb]; exact pushB_at ρ17 _
            refine (growTo_core (d := .nil) (v := .slice none 0 0) ⟨(fun n hn => by cases hn), ⟨rfl, rfl⟩, ⟨rfl, rfl⟩, .inl ⟨rfl, .inl rfl⟩⟩ G ⟨.inl ⟨rfl, rfl, rfl⟩, Int.le_refl 0, (fun n hn => by cases hn), (fun n hn => by cases hn)⟩ hna17 (hca.mono (Env.le_trans l16 l17)) (b := .arr q.1 lf bl sz elem) ?_ ?_ ?_).mono ?_
            · simp only [Blk.phys, hszv, hbat]
              rw [if_neg (by omega)]
            · simp only [Blk.inB, Bool.and_eq_true, decide_eq_true_eq]
              exact ⟨hlf17.1, hbl17.1, hsza.1⟩
            · simp only [Blk.holds, hszv, hbat]
              have hLv : (ρ17.app ⟨[], [], [(w17.heap.size, 0)]⟩).ls.getD lf [] = N ++ List.replicate (za.toNat * s) 0 := by
                rw [(hlf17.mono le17).2, natMul c1, Int.toNat_natCast]
              rw [hLv, (hbl17.mono le17).2]
              refine ⟨?_, fun h0 => by omega, fun _ => ⟨by simp, ?_⟩⟩
              · rw [hlenA, natMul (by omega)]
                congr 2
                omega
              · obtain ⟨rest, g1, g2⟩ := G.cells
                exact ⟨rest, by simpa using g1, by rw [List.nil_append] at g2; rw [g2]⟩
            · rintro sv ρ18 h18 w18 l18 ⟨rfl, hs18⟩
              exact ⟨_, hs18, hrun⟩
          exact key r kk hk
        · exact hk.elim
      · exact hk.elim
    · exact hk.elim
  · exact hk.elim
end
end Go.Sx
