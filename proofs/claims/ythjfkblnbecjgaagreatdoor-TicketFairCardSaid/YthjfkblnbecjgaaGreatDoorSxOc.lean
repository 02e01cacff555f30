/- More operations: strings and slices cut. -/
import Derived.Test.YthjfkblnbecjgaaGreatDoorSxOb
set_option linter.unusedVariables false
namespace Go.Sx

def bndS (ev : Operand → Option SV) (d : At) : Option Operand → Option At
  | none => some d
  | some o => match ev o with
    | some (.i _ a) => some a
    | _ => none
def cutM (P : Program) (elem : TypeId) (n : Nat) (o cap l h : At) : M SV :=
  match sizeT P elem with
  | some sz => do
    need .geq l (.c 0)
    need .leq l h
    need .leq h cap
    let len' ← mkI (.sub h l)
    if l = .c 0 then pure (.slc n o len' cap) else do
    need .geq o (.c 0)
    let e ← mkI (.cmp .eql l cap)
    let b ← dec e
    if b then pure (.slc n o len' (.c 0)) else do
    let q ← mkI (.mul l (.c sz))
    let o' ← mkI (.add o q)
    let cap' ← mkI (.sub cap l)
    pure (.slc n o' len' cap')
  | none => M.no 330
def sliceM (P : Program) (ev : Operand → Option SV) (t : TypeId) (x : SV) (lo hi mx : Option Operand) : M SV :=
  if mx.isSome then M.no 331 else
  match P.underlying t, x with
  | some .string, .raw (.string s) => (match bndS ev (.c 0) lo, bndS ev (.c s.size) hi with
    | some (.c l), some (.c h) => if 0 ≤ l ∧ l ≤ h ∧ h ≤ s.size then pure (.raw (.string (s.extract l.toNat h.toNat))) else M.no 332
    | _, _ => M.no 333)
  | some (.slice elem), .slc n o len cap => (match bndS ev (.c 0) lo, bndS ev len hi with
    | some l, some h => cutM P elem n o cap l h
    | _, _ => M.no 334)
  | some (.slice elem), .nils => (match sizeT P elem, bndS ev (.c 0) lo, bndS ev (.c 0) hi with
    | some _, some (.c 0), some (.c 0) => pure .nils
    | _, _, _ => M.no 335)
  | some (.array m elem), .ptr n o => (match bndS ev (.c 0) lo, bndS ev (.c m) hi with
    | some l, some h => cutM P elem n o (.c m) l h
    | _, _ => M.no 336)
  | _, _ => M.no 337

section
variable {Φ : Phi} {C : Ctx} {ρ : Env} {h : H} {w : World} {P : Program}

/-- A bound as it is written. -/
def BndIs (v : Option Value) (d n : Int) : Prop := (v = none ∧ n = d) ∨ ∃ k, v = some (.int k n)
theorem bounds_run {isSlice : Bool} {len cap : Nat} {lo hi : Option Value} {l h : Int} (hl : BndIs lo 0 l) (hh : BndIs hi len h) (h0 : 0 ≤ l) (h1 : l ≤ h) (h2 : h ≤ cap) (w : World) :
    (Instr.sliceBounds isSlice len cap lo hi none).run P w = .ok (l.toNat, h.toNat, cap) w := by
  have eh : (h.toNat : Int) = h := Int.toNat_of_nonneg (by omega)
  have h3 : 0 ≤ h := by omega
  rcases hl with ⟨rfl, rfl⟩ | ⟨kl, rfl⟩ <;> rcases hh with ⟨rfl, rfl⟩ | ⟨kh, rfl⟩ <;> simp [Instr.sliceBounds, Instr.sliceBound, asIntOf, *]
theorem bndS_is {sl : Slots} {a : Act} (r : RepS ρ sl a) {d x : At} {o : Option Operand} {z : Int} (hd : AtIs ρ d z) (e : bndS (evalO sl) d o = some x) : ∃ n, AtIs ρ x n ∧ BndIs (o.map a.eval) z n := by
  unfold bndS at e
  split at e
  · cases e; exact ⟨z, hd, .inl ⟨rfl, rfl⟩⟩
  · rename_i op
    split at e
    · rename_i k y ey
      cases e
      obtain ⟨hy, hv⟩ := (evalO_is r ey).int
      exact ⟨_, hy, .inr ⟨k, by simp [hv]⟩⟩
    · cases e

def cutV (a : Addr) (l h m s : Nat) : Value := .slice (some (if m = l then a else a.add (l * s))) (h - l) (m - l)
theorem cutM_spec {elem : TypeId} {n : Nat} {o cap l h' : At} {zc zl zh : Int} (hn : n < ρ.bs.length) (ho : AtIs ρ o (o.den ρ.is)) (hc : AtIs ρ cap zc) (hl : AtIs ρ l zl) (hh : AtIs ρ h' zh) :
    MSpec Φ C (cutM P elem n o cap l h') ρ h w fun sv ρ' h'' w' => w' = w ∧ h''.hp = h.hp ∧ 0 ≤ zl ∧ zl ≤ zh ∧ zh ≤ zc ∧ ∃ s, sizeT P elem = some s ∧ SvIs ρ' sv (cutV (ρ.at n o) zl.toNat zh.toNat zc.toNat s) := by
  unfold cutM
  split
  · rename_i sz es
    refine (need_spec hl (AtIs.c ρ 0)).bind ?_
    rintro _ ρ1 h1 w1 l1 ⟨rfl, hp1, c1⟩
    refine (need_spec (hl.mono l1) (hh.mono l1)).bind ?_
    rintro _ ρ2 h2 w2 l2 ⟨rfl, hp2, c2⟩
    refine (need_spec ((hh.mono l1).mono l2) ((hc.mono l1).mono l2)).bind ?_
    rintro _ ρ3 h3 w3 l3 ⟨rfl, hp3, c3⟩
    simp only [cmpB, decide_eq_true_eq] at c1 c2 c3
    have L := Env.le_trans l1 (Env.le_trans l2 l3)
    have hl3 := hl.mono L
    have hh3 := hh.mono L
    have hc3 := hc.mono L
    have ho3 := ho.mono L
    have hat : ∀ {ρ' : Env}, ρ.le ρ' → ρ'.at n o = ρ.at n o := fun {ρ'} l => by
      obtain ⟨τ, rfl⟩ := l; exact Env.at_app hn ho.1
    refine (mkI_ok (okB2 hh3.1 hl3.1 (.sub h' l) rfl rfl)).bind ?_
    rintro len' ρ4 h4 w4 l4 ⟨rfl, hp4, hlen⟩
    simp only [IOp.den] at hlen
    rw [hh3.2, hl3.2] at hlen
    have L4 := Env.le_trans L l4
    have hn4 := Nat.lt_of_lt_of_le hn (Env.le_len L4).2.2
    have elen : (zh - zl).toNat = zh.toNat - zl.toNat := by omega
    split
    · rename_i h0
      subst h0
      have hz : zl = 0 := hl.2.symm
      subst hz
      refine MSpec.ret ⟨rfl, by rw [hp4, hp3, hp2, hp1], c1, c2, c3, sz, es, ?_, ?_⟩
      · simp only [SV.ok, Bool.and_eq_true, decide_eq_true_eq]
        exact ⟨hn4, (ho.mono L4).1, hlen.1, (hc.mono L4).1⟩
      · have e1 : len'.den ρ4.is = zh - 0 := hlen.2
        have e2 : cap.den ρ4.is = zc := (hc.mono L4).2
        simp only [SV.den, hat L4, cutV, e1, e2]
        simp
        intro _
        simp [Addr.add]
    · refine (need_spec (ho.mono L4) (AtIs.c ρ4 0)).bind ?_
      rintro _ ρ5 h5 w5 l5 ⟨rfl, hp5, c5⟩
      simp only [cmpB, decide_eq_true_eq] at c5
      have L5 := Env.le_trans L4 l5
      refine (cmp_spec (op := .eql) (hl.mono L5) (hc.mono L5)).bind ?_
      rintro e ρ6 h6 w6 l6 ⟨rfl, hp6, he⟩
      have L6 := Env.le_trans L5 l6
      refine (dec_spec he).bind ?_
      rintro b ρ7 h7 w7 l7 ⟨rfl, hp7, hb⟩
      have L7 := Env.le_trans L6 l7
      have hn7 := Nat.lt_of_lt_of_le hn (Env.le_len L7).2.2
      have hlen7 := ((hlen.mono l5).mono l6).mono l7
      have hbe : (zl == zc) = b := by rw [← hb]; cases hq : (zl == zc) <;> simp [cmpB, b2i, hq]
      cases b with
      | true =>
        simp only [if_true]
        have hz : zl = zc := by simpa using hbe
        refine MSpec.ret ⟨rfl, by rw [hp7, hp6, hp5, hp4, hp3, hp2, hp1], c1, c2, c3, sz, es, ?_, ?_⟩
        · simp only [SV.ok, Bool.and_eq_true, decide_eq_true_eq]
          exact ⟨hn7, (ho.mono L7).1, hlen7.1, rfl⟩
        · have e1 : len'.den ρ7.is = zh - zl := hlen7.2
          simp only [SV.den, hat L7, cutV, e1, At.den_c, hz]
          rw [← hz] at *
          simp [elen]
      | false =>
        simp only [Bool.false_eq_true, if_false]
        have hz : zl ≠ zc := by simpa using hbe
        refine (mkI_ok (okB2 (hl.mono L7).1 rfl (.mul l (.c sz)) rfl rfl)).bind ?_
        rintro q ρ8 h8 w8 l8 ⟨rfl, hp8, hq⟩
        simp only [IOp.den, (hl.mono L7).2, At.den_c] at hq
        have L8 := Env.le_trans L7 l8
        refine (mkI_ok (okB2 (ho.mono L8).1 hq.1 (.add o q) rfl rfl)).bind ?_
        rintro o' ρ9 h9 w9 l9 ⟨rfl, hp9, ho'⟩
        simp only [IOp.den, (ho.mono L8).2, hq.2] at ho'
        have L9 := Env.le_trans L8 l9
        refine (mkI_ok (okB2 (hc.mono L9).1 (hl.mono L9).1 (.sub cap l) rfl rfl)).bind ?_
        rintro cap' ρ10 h10 w10 l10 ⟨rfl, hp10, hcap'⟩
        simp only [IOp.den, (hc.mono L9).2, (hl.mono L9).2] at hcap'
        have L10 := Env.le_trans L9 l10
        refine MSpec.ret ⟨rfl, by rw [hp10, hp9, hp8, hp7, hp6, hp5, hp4, hp3, hp2, hp1], c1, c2, c3, sz, es, ?_, ?_⟩
        · simp only [SV.ok, Bool.and_eq_true, decide_eq_true_eq]
          exact ⟨Nat.lt_of_lt_of_le hn (Env.le_len L10).2.2, (ho'.mono l10).1, (((hlen7.mono l8).mono l9).mono l10).1, hcap'.1⟩
        · have e1 : len'.den ρ10.is = zh - zl := (((hlen7.mono l8).mono l9).mono l10).2
          have e2 : o'.den ρ10.is = o.den ρ.is + zl * sz := (ho'.mono l10).2
          have e3 : cap'.den ρ10.is = zc - zl := hcap'.2
          have e4 : (zc - zl).toNat = zc.toNat - zl.toNat := by omega
          have e5 : ¬ zc.toNat = zl.toNat := by omega
          have e6 : ρ10.b n = ρ.b n := by obtain ⟨τ, rfl⟩ := L10; exact Env.b_app hn
          have e7 : (o.den ρ.is + zl * sz).toNat = (o.den ρ.is).toNat + zl.toNat * sz := by
            obtain ⟨x, hx⟩ := Int.eq_ofNat_of_zero_le c1
            obtain ⟨y, hy⟩ := Int.eq_ofNat_of_zero_le c5
            rw [hx, hy]
            rw [← Int.natCast_mul, ← Int.natCast_add]
            simp only [Int.toNat_natCast]
          simp only [SV.den, cutV, e1, e3, e4, elen, if_neg e5, Env.at, e2, e6, e7, Addr.add, Nat.add_assoc]
          by_cases hz0 : zl.toNat * sz = 0 <;> simp [hz0]
  · exact MSpec.no

theorem sliceM_spec {sl : Slots} {a : Act} (r : RepS ρ sl a) {t : TypeId} {x : SV} {v : Value} (hx : SvIs ρ x v) (lo hi mx : Option Operand) :
    MSpec Φ C (sliceM P (evalO sl) t x lo hi mx) ρ h w (DoesV P w h (Instr.sliceAt t v (lo.map a.eval) (hi.map a.eval) (mx.map a.eval))) := by
  unfold sliceM
  split
  · exact MSpec.no
  rename_i hmx
  have hmx' : mx = none := by cases mx <;> simp_all
  subst hmx'
  split
  · rename_i s eu
    obtain rfl := hx.raw
    split
    · rename_i l h' el eh
      split
      · rename_i hc
        obtain ⟨zl, hl, bl⟩ := bndS_is r (AtIs.c ρ 0) el
        obtain ⟨zh, hh, bh⟩ := bndS_is r (AtIs.c ρ (s.size : Int)) eh
        obtain rfl : l = zl := hl.2
        obtain rfl : h' = zh := hh.2
        refine MSpec.ret ⟨rfl, rfl, _, ⟨rfl, rfl⟩, fun W => ?_⟩
        simp [Instr.sliceAt, run_underlying eu, Instr.slice, bounds_run (P := P) bl bh hc.1 hc.2.1 hc.2.2]
        rfl
      · exact MSpec.no
    · exact MSpec.no
  · rename_i elem n o len cap eu
    obtain ⟨hn, ho, hl, hc, rfl⟩ := hx.slc
    split
    · rename_i l h' el eh
      obtain ⟨zl, hl', bl⟩ := bndS_is r (AtIs.c ρ 0) el
      obtain ⟨zh, hh', bh⟩ := bndS_is r hl eh
      refine (cutM_spec (P := P) hn ho hc hl' hh').mono ?_
      rintro sv ρ1 h1 w1 l1 ⟨rfl, hp1, c1, c2, c3, s, es, hs⟩
      refine ⟨rfl, hp1, _, hs, fun W => ?_⟩
      have bh' : BndIs (hi.map a.eval) ((len.den ρ.is).toNat : Nat) zh := by
        rcases bh with ⟨h1, h2⟩ | h1
        · exact .inl ⟨h1, by omega⟩
        · exact .inr h1
      simp [Instr.sliceAt, run_underlying eu, Instr.slice, bounds_run (P := P) bl bh' c1 c2 (by omega : zh ≤ ((cap.den ρ.is).toNat : Nat)), run_sizeOf' es, cutV]
      split <;> rfl
    · exact MSpec.no
  · rename_i elem eu
    obtain rfl := hx.nils
    split
    · rename_i s es el eh
      obtain ⟨zl, hl, bl⟩ := bndS_is r (AtIs.c ρ 0) el
      obtain ⟨zh, hh, bh⟩ := bndS_is r (AtIs.c ρ 0) eh
      obtain rfl : 0 = zl := hl.2
      obtain rfl : 0 = zh := hh.2
      refine MSpec.ret ⟨rfl, rfl, _, ⟨rfl, rfl⟩, fun W => ?_⟩
      simp [Instr.sliceAt, run_underlying eu, Instr.slice, bounds_run (P := P) (len := 0) (cap := 0) bl bh (Int.le_refl 0) (Int.le_refl 0) (Int.le_refl 0), run_sizeOf' es]
      rfl
    · exact MSpec.no
  · rename_i m elem n o eu
    obtain ⟨hn, ho, rfl⟩ := hx.ptr
    split
    · rename_i l h' el eh
      obtain ⟨zl, hl', bl⟩ := bndS_is r (AtIs.c ρ 0) el
      obtain ⟨zh, hh', bh⟩ := bndS_is r (AtIs.c ρ (m : Int)) eh
      refine (cutM_spec (P := P) hn ho (AtIs.c ρ (m : Int)) hl' hh').mono ?_
      rintro sv ρ1 h1 w1 l1 ⟨rfl, hp1, c1, c2, c3, s, es, hs⟩
      refine ⟨rfl, hp1, _, hs, fun W => ?_⟩
      simp [Instr.sliceAt, Instr.sureAddr, run_underlying eu, bounds_run (P := P) bl bh c1 c2 c3, run_sizeOf' es, cutV]
    · exact MSpec.no
  · exact MSpec.no

def opY (P : Program) (ro : List (Addr × Value)) (ev : Operand → Option SV) (o : Oper) : M SV :=
  match o.op with
  | .slice t x lo hi mx => with1 (ev x) fun u => sliceM P ev t u lo hi mx
  | _ => opX P ro ev o
theorem opY_spec {ro : List (Addr × Value)} (hro : RoOk C ro) {sl : Slots} {a : Act} (r : RepS ρ sl a) (o : Oper) :
    MSpec Φ C (opY P ro (evalO sl) o) ρ h w (OpDoes P a.eval o w) := by
  unfold opY
  split
  · rename_i t x lo hi mx ho
    refine (with1_spec (fun y hy => evalO_is r hy) fun y hy => sliceM_spec (P := P) (w := w) (h := h) r hy lo hi mx).mono ?_
    rintro sv ρ1 h1 w1 l ⟨rfl, _, v, hv, hr⟩
    refine ⟨v, hv, .inl ?_⟩
    obtain ⟨dst, op, type, pos, after, guard⟩ := o
    simp only at ho
    subst ho
    simp [execOp, hr]
  · exact opX_spec hro r o
end
end Go.Sx
