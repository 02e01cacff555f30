/- Appends are sound (3). -/
import Derived.Test.YthjfkblnbecjgaaGreatDoorSxOh
set_option linter.unusedVariables false
namespace Go.Sx
section
variable {Φ : Phi} {C : Ctx} {ρ : Env} {h : H} {w : World} {P : Program}

theorem OldIs.mono {ρ' : Env} {h' : H} {d : Dst} {v : Value} {e : TypeId} {s : Nat} {xs : List Value} (r : RepH C ρ h w) (hd : DstIs ρ d v) (l : ρ.le ρ') (hp : h'.hp = h.hp) (o : OldIs C ρ h w d v e s xs) : OldIs C ρ' h' w d v e s xs := by
  have d1 : d.len.den ρ'.is = d.len.den ρ.is := (hd.len.mono l).2
  have d2 : d.cap.den ρ'.is = d.cap.den ρ.is := (hd.cap.mono l).2
  refine ⟨by rw [d1]; exact o.whole, by rw [d1]; exact o.len, fun n hn h0 => ?_, fun n hn => by rw [d2]; exact o.cap n hn⟩
  rw [d2] at h0
  obtain ⟨b, eb, hb⟩ := o.old n hn h0
  have hok := r.fact.heap _ (blk_mem eb)
  refine ⟨b, (blk_of_hp hp n).trans eb, ?_⟩
  obtain ⟨τ, rfl⟩ := l
  rw [Env.b_app hok.lt, Blk.phys_app hok.lt hok.inB]
  exact hb
theorem natMul {z : Int} {s : Nat} (h : 0 ≤ z) : z * (s : Int) = ((z.toNat * s : Nat) : Int) := by
  obtain ⟨k, rfl⟩ := Int.eq_ofNat_of_zero_le h
  rw [Int.toNat_natCast]; exact (Int.natCast_mul k s).symm
theorem cellsOf_one {ks : List CK} {L : List Int} : ∀ u ∈ cellsOf ks L, u.oneCell' = true := by
  intro u hu
  obtain ⟨i, hi, rfl⟩ := List.getElem_of_mem hu
  simp [cellsOf, cellAt, CK.val_one]

/-- The new block stands, and the slice points to it. -/
theorem growTo_core {d : Dst} {v : Value} (hd : DstIs ρ d v) {e : TypeId} {s : Nat} {xs news : List Value} {w' : World} {g cap need : Nat} (G : Grown w w' e s v g cap need (xs ++ news)) (hO : OldIs C ρ h w d v e s xs)
    {na ca : At} (hn : AtIs ρ na need) (hc : AtIs ρ ca cap)
    {b : Blk} (hph : b.phys (ρ.app ⟨[], [], [(g, 0)]⟩) h.nb = [g]) (hin : b.inB ρ.is.length ρ.ls.length ρ.bs.length = true) (hb : b.holds C (ρ.app ⟨[], [], [(g, 0)]⟩) w' h.nb) :
    MSpec Φ C (fun h kk => growTo d (.slc h.nb (.c 0) na ca) b h kk) ρ h w fun sv ρ' _ w'' => w'' = w' ∧ SvIs ρ' sv (.slice (some ⟨g, 0, none⟩) need cap) := by
  intro r k hk
  have hk' : Tree.den Φ (k (.slc h.nb (.c 0) na ca) { h.swap d.name.toList [(h.nb, b)] with nb := h.nb + 1 }) ρ.is ρ.ls := hk
  refine ⟨.slc h.nb (.c 0) na ca, ρ.app ⟨[], [], [(g, 0)]⟩, { h.swap d.name.toList [(h.nb, b)] with nb := h.nb + 1 }, w', Env.le_app _ _, growTo_rep r hd G hO.old hO.cap hph hin hb, ?_, rfl, ?_⟩
  · simpa [Env.app] using hk'
  · have := slc_out (g := g) r.nb hn hc
    simpa using this
theorem growTo_spec {d : Dst} {v u : Value} (hd : DstIs ρ d v) {t e : TypeId} {s : Nat} {xs news : List Value} {w' : World} {g cap need : Nat} (G : Grown w w' e s v g cap need (xs ++ news)) (hO : OldIs C ρ h w d v e s xs)
    (hr : ∀ ty, (Builtin.append_ #[t, t] ty #[v, u]).run P w = .ok (.slice (some ⟨g, 0, none⟩) need cap) w') {na ca : At} (hn : AtIs ρ na need) (hc : AtIs ρ ca cap)
    {b : Blk} (hph : b.phys (ρ.app ⟨[], [], [(g, 0)]⟩) h.nb = [g]) (hin : b.inB ρ.is.length ρ.ls.length ρ.bs.length = true) (hb : b.holds C (ρ.app ⟨[], [], [(g, 0)]⟩) w' h.nb) :
    MSpec Φ C (fun h kk => growTo d (.slc h.nb (.c 0) na ca) b h kk) ρ h w (AppDoes P t v u w) :=
  (growTo_core hd G hO hn hc hph hin hb).mono (by
    rintro sv ρ' h' w'' l ⟨rfl, hs⟩
    exact ⟨_, hs, hr⟩)

theorem appNums_spec {t elem : TypeId} {s : Nat} {inf : TypeInfo} {z : Value} (ht : P.underlying t = some (.slice elem)) (hi : P.info? elem = some inf) (hz : inf.zero = some z) (hzs : z.cells.size = inf.size) (hsz : inf.size = s) (hb : inf.bytes ≤ 1000) (hs : 0 < s)
    {d : Dst} {v : Value} (hd : DstIs ρ d v) {m : Nat} {p k : At} {zp zk : Int} {c : Nat} (hm : m < ρ.bs.length) (hp : AtIs ρ p zp) (hk : AtIs ρ k zk) (hk0 : 0 < zk) :
    MSpec Φ C (appNums elem s d m p k) ρ h w (AppDoes P t v (.slice (some (ρ.at m p)) zk.toNat c) w) := by
  unfold appNums
  refine (add_spec hd.len hk).bind ?_
  rintro na ρ1 h1 w1 l1 ⟨rfl, hp1, hna⟩
  refine (need_spec hna (AtIs.c ρ1 1000000)).bind ?_
  rintro _ ρ2 h2 w2 l2 ⟨rfl, hp2, c2⟩
  simp only [cmpB, decide_eq_true_eq] at c2
  have L2 := Env.le_trans l1 l2
  refine (mul_spec (hk.mono L2) (AtIs.c ρ2 s)).bind ?_
  rintro ksa ρ3 h3 w3 l3 ⟨rfl, hp3, hksa⟩
  have L3 := Env.le_trans L2 l3
  refine (rdList_spec (Nat.lt_of_lt_of_le hm (Env.le_len L3).2.2) (hp.mono L3) hksa).bind ?_
  rintro q ρ4 h4 w4 l4 ⟨rfl, hp4, z0, z1, N, hN, hNl, hcells⟩
  have L4 := Env.le_trans L3 l4
  refine (oldNums_spec hs (hd.mono L4) hN).bind ?_
  rintro l ρ5 h5 w5 l5 ⟨rfl, hp5, L, hL, hO, hLl, happ⟩
  have L5 := Env.le_trans L4 l5
  rw [at_mono L3 hm hp] at hcells
  have d5 : d.len.den ρ5.is = d.len.den ρ.is := (hd.len.mono L5).2
  have d4 : d.len.den ρ4.is = d.len.den ρ.is := (hd.len.mono L4).2
  have hNl' : N.length = zk.toNat * s := by rw [natMul (by omega)] at hNl; exact_mod_cast hNl
  have hlen0 : 0 ≤ d.len.den ρ.is := by rw [← d5]; exact hO.len
  have hwhole := hO.whole
  rw [d5] at hwhole
  refine MSpec.rep fun r5 => ?_
  have nlen : ((d.len.den ρ.is).toNat + zk.toNat : Nat) = (d.len.den ρ.is + zk).toNat := by omega
  obtain ⟨g, cap, w', hr, G⟩ := append_whole (P := P) (ty := 0) (t := t) ht hi hz hzs (hsz ▸ hwhole) (a := ρ.at m p) (m := zk.toNat) (c := c) (news := cellsOf q.1 N) (by rw [cellsOf_len, hNl', hsz])
    hcells cellsOf_one (by omega) (by omega) hb
  have hr' : ∀ ty, (Builtin.append_ #[t, t] ty #[v, .slice (some (ρ.at m p)) zk.toNat c]).run P w5 = .ok (.slice (some ⟨g, 0, none⟩) ((d.len.den ρ.is).toNat + zk.toNat) cap) w' := fun ty => hr
  rw [hsz] at G
  have hna5 := hna.mono (Env.le_trans l2 (Env.le_trans l3 (Env.le_trans l4 l5)))
  have hge := G.ge
  have hle := G.le
  refine (anyI_spec (x := (cap : Int)) hna5 (AtIs.c ρ5 _) (by omega) (by omega)).bind ?_
  rintro ca ρ6 h6 w6 l6 ⟨rfl, hp6, hca⟩
  refine (mul_spec (hna5.mono l6) (AtIs.c ρ6 s)).bind ?_
  rintro bl ρ7 h7 w7 l7 ⟨rfl, hp7, hbl⟩
  refine (mul_spec (hca.mono l7) (AtIs.c ρ7 s)).bind ?_
  rintro sz ρ8 h8 w8 l8 ⟨rfl, hp8, hsza⟩
  have L8 := Env.le_trans l6 (Env.le_trans l7 l8)
  have LL8 := Env.le_trans L5 L8
  have hbl8 := hbl.mono l8
  have hL8 := hL.mono L8
  have hO8 := hO.mono r5 (hd.mono L5) L8 (by rw [hp8, hp7, hp6])
  have hna8 : AtIs ρ8 na (((d.len.den ρ.is).toNat + zk.toNat : Nat) : Int) := by
    have := hna5.mono L8
    have e : ((d.len.den ρ.is).toNat + zk.toNat : Nat) = (d.len.den ρ.is + zk) := by omega
    rw [e]; exact this
  have hca8 := hca.mono (Env.le_trans l7 l8)
  have le8 := Env.le_app ρ8 ⟨[], [], [(g, 0)]⟩
  have hszv : sz.den (ρ8.app ⟨[], [], [(g, 0)]⟩).is = ((cap * s : Nat) : Int) := by rw [(hsza.mono le8).2]; exact (Int.natCast_mul cap s).symm
  have hcap0 : 0 < cap * s := Nat.mul_pos (by omega) hs
  refine MSpec.rep fun r8 => ?_
  have hbat : (ρ8.app ⟨[], [], [(g, 0)]⟩).b h8.nb = (g, 0) := by rw [← r8.nb]; exact pushB_at ρ8 g
  refine growTo_spec (hd.mono LL8) G hO8 hr' hna8 hca8 (b := .arr q.1 l bl sz elem) ?_ ?_ ?_
  · simp only [Blk.phys, hszv, hbat]
    rw [if_neg (by omega)]
  · simp only [Blk.inB, Bool.and_eq_true, decide_eq_true_eq]
    exact ⟨hL8.1, hbl8.1, hsza.1⟩
  · simp only [Blk.holds, hszv, hbat]
    have hLv : (ρ8.app ⟨[], [], [(g, 0)]⟩).ls.getD l [] = L ++ N := (hL8.mono le8).2
    rw [hLv, (hbl8.mono le8).2]
    refine ⟨?_, fun h0 => by omega, fun _ => ⟨by simp, ?_⟩⟩
    · rw [natMul (by omega), ← nlen, Nat.add_mul, List.length_append, hNl', ← hLl, d4]
    · obtain ⟨rest, h1, h2⟩ := G.cells
      rw [happ]
      exact ⟨rest, h1, by rw [h2]⟩

theorem appCells_spec {t elem : TypeId} {s : Nat} {inf : TypeInfo} {z : Value} (ht : P.underlying t = some (.slice elem)) (hi : P.info? elem = some inf) (hz : inf.zero = some z) (hzs : z.cells.size = inf.size) (hsz : inf.size = s) (hb : inf.bytes ≤ 1000) (hs : 0 < s)
    {d : Dst} {v : Value} (hd : DstIs ρ d v) {m k : Nat} {p : At} {zp : Int} {c : Nat} (hm : m < ρ.bs.length) (hp : AtIs ρ p zp) (hk0 : 0 < k) (hk1 : k ≤ 1000000) :
    MSpec Φ C (appCells elem s d m p k) ρ h w (AppDoes P t v (.slice (some (ρ.at m p)) k c) w) := by
  unfold appCells
  refine (need_spec hp (AtIs.c ρ 0)).bind ?_
  rintro _ ρ1 h1 w1 l1 ⟨rfl, hp1, c1⟩
  simp only [cmpB, decide_eq_true_eq] at c1
  refine (rdCells_spec (Nat.lt_of_lt_of_le hm (Env.le_len l1).2.2) (hp.mono l1) c1 0 (k * s)).bind ?_
  rintro ys ρ2 h2 w2 l2 ⟨rfl, hp2, hys, hysl, hcells⟩
  have L2 := Env.le_trans l1 l2
  have chk : MSpec Φ C (chkOne ys) ρ2 h2 w2 fun _ ρ' h' w' => w' = w2 ∧ h'.hp = h2.hp ∧ ρ' = ρ2 ∧ ys.all SV.one = true := by
    unfold chkOne
    split
    · rename_i hc; exact MSpec.ret ⟨rfl, rfl, rfl, hc⟩
    · exact MSpec.no
  refine chk.bind ?_
  rintro _ ρ2' h2' w2' l2' ⟨e1, hp2', e2, hall⟩
  have e1' := e1.symm
  have e2' := e2.symm
  subst e1'
  subst e2'
  refine (oldCells_spec hs (hd.mono L2) hk1).bind ?_
  rintro q ρ3 h3 w3 l3 ⟨rfl, hp3, hqok, hO, hq1, hqk, hql⟩
  have L3 := Env.le_trans L2 l3
  rw [at_mono l1 hm hp] at hcells
  have d3 : d.len.den ρ3.is = d.len.den ρ.is := (hd.len.mono L3).2
  have d2 : d.len.den ρ2.is = d.len.den ρ.is := (hd.len.mono L2).2
  have hwhole := hO.whole
  rw [d3, ← d2, hq1] at hwhole
  refine MSpec.rep fun r3 => ?_
  have hys3 : SV.oks ρ3.is.length ρ3.bs.length ys = true := SV.oks_mono (Env.le_len l3).1 (Env.le_len l3).2.2 _ hys
  have hdys : SV.dens ρ3 ys = SV.dens ρ2 ys := by obtain ⟨τ, rfl⟩ := l3; exact SV.dens_app ys hys
  have hone : ∀ u ∈ SV.dens ρ2 ys, u.oneCell' = true := by
    intro u hu
    rw [SV.dens_eq] at hu
    obtain ⟨y, hy, rfl⟩ := List.mem_map.1 hu
    exact SV.one_den (List.all_eq_true.1 hall y hy)
  obtain ⟨g, cap, w', hr, G⟩ := append_whole (P := P) (ty := 0) (t := t) ht hi hz hzs (hsz ▸ hwhole) (a := ρ.at m p) (m := k) (c := c) (news := SV.dens ρ2 ys) (by rw [SV.dens_eq, List.length_map, hysl, hsz])
    (fun j u hj => by have := hcells j u hj; rw [Nat.zero_add] at this; exact this) hone hk0 hqk hb
  have hr' : ∀ ty, (Builtin.append_ #[t, t] ty #[v, .slice (some (ρ.at m p)) k c]).run P w3 = .ok (.slice (some ⟨g, 0, none⟩) (q.1 + k) cap) w' := fun ty => hr
  rw [hsz] at G
  have hge := G.ge
  have hle := G.le
  refine (anyI_spec (x := (cap : Int)) (AtIs.c ρ3 ((q.1 + k : Nat) : Int)) (AtIs.c ρ3 _) (by omega) (by omega)).bind ?_
  rintro ca ρ4 h4 w4 l4 ⟨rfl, hp4, hca⟩
  refine (mul_spec hca (AtIs.c ρ4 s)).bind ?_
  rintro sz ρ5 h5 w5 l5 ⟨rfl, hp5, hsza⟩
  have L5 := Env.le_trans l4 l5
  have LL5 := Env.le_trans L3 L5
  have hO5 := hO.mono r3 (hd.mono L3) L5 (by rw [hp5, hp4])
  have le5 := Env.le_app ρ5 ⟨[], [], [(g, 0)]⟩
  have hszv : sz.den (ρ5.app ⟨[], [], [(g, 0)]⟩).is = ((cap * s : Nat) : Int) := by rw [(hsza.mono le5).2]; exact (Int.natCast_mul cap s).symm
  refine MSpec.rep fun r5 => ?_
  have hbat : (ρ5.app ⟨[], [], [(g, 0)]⟩).b h5.nb = (g, 0) := by rw [← r5.nb]; exact pushB_at ρ5 g
  have hqok5 := SV.oks_mono (Env.le_len L5).1 (Env.le_len L5).2.2 _ hqok
  have hys5 := SV.oks_mono (Env.le_len L5).1 (Env.le_len L5).2.2 _ hys3
  refine growTo_spec (hd.mono LL5) G hO5 hr' (AtIs.c ρ5 ((q.1 + k : Nat) : Int)) (hca.mono l5) (b := .cells (q.2 ++ ys) sz elem) ?_ ?_ ?_
  · simp only [Blk.phys, hbat]
  · simp only [Blk.inB, Bool.and_eq_true]
    exact ⟨oks_append hqok5 hys5, hsza.1⟩
  · simp only [Blk.holds, hszv, hbat]
    refine ⟨by simp, ?_⟩
    obtain ⟨rest, h1, h2⟩ := G.cells
    have e : SV.dens (ρ5.app ⟨[], [], [(g, 0)]⟩) (q.2 ++ ys) = SV.dens ρ3 q.2 ++ SV.dens ρ2 ys := by
      obtain ⟨τ, rfl⟩ := L5
      rw [SV.dens_app _ (oks_append hqok5 hys5), SV.dens_app _ (oks_append hqok hys3), dens_append, hdys]
    rw [e]
    exact ⟨rest, h1, by rw [h2]⟩

/-- Reshaping leaves the world as it is. -/
theorem toArr_w {n : Nat} : MSpec Φ C (toArr n) ρ h w fun _ ρ' h' w' => w' = w := toArr_spec.mono fun _ _ _ _ _ hh => hh.1
theorem appGo_spec {t elem : TypeId} {s : Nat} {inf : TypeInfo} {z : Value} (ht : P.underlying t = some (.slice elem)) (hi : P.info? elem = some inf) (hz : inf.zero = some z) (hzs : z.cells.size = inf.size) (hsz : inf.size = s) (hb : inf.bytes ≤ 1000) (hs : 0 < s)
    {d : Dst} {v : Value} (hd : DstIs ρ d v) {m : Nat} {p k : At} {zp zk : Int} {c : Nat} (hm : m < ρ.bs.length) (hp : AtIs ρ p zp) (hk : AtIs ρ k zk) (hk0 : 0 < zk) :
    MSpec Φ C (appGo elem s d m p k) ρ h w (AppDoes P t v (.slice (some (ρ.at m p)) zk.toNat c) w) := by
  have nums : MSpec Φ C (do
      toArr m
      (match d.name with | some n => toArr n | none => pure ())
      appNums elem s d m p k : M SV) ρ h w (AppDoes P t v (.slice (some (ρ.at m p)) zk.toNat c) w) := by
    refine toArr_w.bind ?_
    rintro _ ρ1 h1 w1 l1 rfl
    have second : MSpec Φ C (match d.name with | some n => toArr n | none => pure ()) ρ1 h1 w1 fun _ ρ' h' w' => w' = w1 := by
      split
      · exact toArr_w
      · exact MSpec.ret rfl
    refine second.bind ?_
    rintro _ ρ2 h2 w2 l2 rfl
    have L2 := Env.le_trans l1 l2
    have := appNums_spec (Φ := Φ) (C := C) (h := h2) (w := w2) (c := c) ht hi hz hzs hsz hb hs (hd.mono L2) (Nat.lt_of_lt_of_le hm (Env.le_len L2).2.2) (hp.mono L2) (hk.mono L2) hk0
    rw [at_mono L2 hm hp] at this
    exact this
  refine MSpec.rep fun r0 => ?_
  intro r kk hd'
  unfold appGo at hd'
  split at hd'
  · rename_i k0 ek
    have hk0' := fixed_ok r0.fact ek
    rw [hk.val] at hk0'
    split at hd'
    · rename_i hc
      simp only [Bool.and_eq_true, decide_eq_true_eq] at hc
      have := appCells_spec (Φ := Φ) (C := C) (h := h) (w := w) (c := c) ht hi hz hzs hsz hb hs hd (k := k0.toNat) hm hp (by omega) (by omega)
      rw [← hk0'] at this hd'
      exact this r kk hd'
    · exact nums r kk hd'
  · exact nums r kk hd'
theorem appMain_spec {t elem : TypeId} {s : Nat} {inf : TypeInfo} {z : Value} (ht : P.underlying t = some (.slice elem)) (hi : P.info? elem = some inf) (hz : inf.zero = some z) (hzs : z.cells.size = inf.size) (hsz : inf.size = s) (hb : inf.bytes ≤ 1000) (hs : 0 < s)
    {x : SV} {d : Dst} {v : Value} (hx : SvIs ρ x v) (hd : DstIs ρ d v) {m : Nat} {p k : At} {zp zk : Int} {c : Nat} (hm : m < ρ.bs.length) (hp : AtIs ρ p zp) (hk : AtIs ρ k zk) :
    MSpec Φ C (appMain elem s x d m p k) ρ h w (AppDoes P t v (.slice (some (ρ.at m p)) zk.toNat c) w) := by
  unfold appMain
  refine (need_spec hk (AtIs.c ρ 0)).bind ?_
  rintro _ ρ1 h1 w1 l1 ⟨rfl, hp1, c1⟩
  simp only [cmpB, decide_eq_true_eq] at c1
  refine (cmp_spec (op := .eql) (hk.mono l1) (AtIs.c ρ1 0)).bind ?_
  rintro e ρ2 h2 w2 l2 ⟨rfl, hp2, he⟩
  refine (dec_spec he).bind ?_
  rintro b ρ3 h3 w3 l3 ⟨rfl, hp3, hbb⟩
  have L3 := Env.le_trans l1 (Env.le_trans l2 l3)
  have hbe : (zk == 0) = b := by rw [← hbb]; cases hq : (zk == 0) <;> simp [cmpB, b2i, hq]
  cases b with
  | true =>
    simp only [if_true]
    have hk0 : zk = 0 := by simpa using hbe
    subst hk0
    refine (need_spec (hd.len.mono L3) (hd.cap.mono L3)).bind ?_
    rintro _ ρ4 h4 w4 l4 ⟨rfl, hp4, c4⟩
    simp only [cmpB, decide_eq_true_eq] at c4
    refine MSpec.ret ⟨v, hx.mono (Env.le_trans L3 l4), fun ty => ?_⟩
    rcases hd.val with ⟨rfl, _⟩ | ⟨n, hn, rfl⟩
    · exact append_none ht hi (Nat.le_refl 0)
    · exact append_none ht hi (by omega)
  | false =>
    simp only [Bool.false_eq_true, if_false]
    have hk0 : zk ≠ 0 := by simpa using hbe
    have := appGo_spec (Φ := Φ) (C := C) (h := h3) (w := w3) (c := c) ht hi hz hzs hsz hb hs (hd.mono L3) (Nat.lt_of_lt_of_le hm (Env.le_len L3).2.2) (hp.mono L3) (hk.mono L3) (by omega)
    rw [at_mono L3 hm hp] at this
    exact this

theorem append2_spec {t t' : TypeId} {x y : SV} {v u : Value} (hx : SvIs ρ x v) (hy : SvIs ρ y u) :
    MSpec Φ C (append2 P t t' x y) ρ h w fun sv ρ' _ w' => ∃ z, SvIs ρ' sv z ∧ ∀ ty, (Builtin.append_ #[t, t'] ty #[v, u]).run P w = .ok z w' := by
  refine MSpec.rep fun r0 => ?_
  intro r kk hk
  unfold append2 at hk
  split at hk
  · rename_i elem ht
    split at hk
    · rename_i s zs inf es ez ei
      split at hk
      · rename_i hc
        obtain ⟨rfl, hs, hzl, hb⟩ := hc
        obtain ⟨hsz, z, hz, hzs⟩ := elemInfo es ez ei hzl
        split at hk
        · rename_i d m p k c ed
          have hd := dst_is r0.fact hx ed
          obtain ⟨hm, hp, hkk, _, rfl⟩ := hy.slc
          exact appMain_spec ht ei hz hzs hsz hb hs hx hd hm hp hkk r kk hk
        · rename_i d m k c ed
          have hd := dst_is r0.fact hx ed
          obtain ⟨hm, hkk, hc, rfl⟩ := hy.vec
          have key : MSpec Φ C (do
            let e ← mkI (.cmp .eql c (.c 0))
            let b ← dec e
            if b then (do need .leq d.len d.cap; pure x) else appMain elem s x d m (.c 0) k : M SV) ρ h w (AppDoes P t v (if c.den ρ.is = 0 then .slice none 0 0 else .slice (some ⟨(ρ.b m).1, (ρ.b m).2, none⟩) (k.den ρ.is).toNat (c.den ρ.is).toNat) w) := by
            refine (cmp_spec (op := .eql) hc (AtIs.c ρ 0)).bind ?_
            rintro e ρ1 h1 w1 l1 ⟨rfl, hp1, he⟩
            refine (dec_spec he).bind ?_
            rintro b ρ2 h2 w2 l2 ⟨rfl, hp2, hbb⟩
            have L2 := Env.le_trans l1 l2
            have hbe : (c.den ρ.is == 0) = b := by rw [← hbb]; cases hq : (c.den ρ.is == 0) <;> simp [cmpB, b2i, hq]
            cases b with
            | true =>
              simp only [if_true]
              have hk0 : c.den ρ.is = 0 := by simpa using hbe
              refine (need_spec (hd.len.mono L2) (hd.cap.mono L2)).bind ?_
              rintro _ ρ4 h4 w4 l4 ⟨rfl, hp4, c4⟩
              simp only [cmpB, decide_eq_true_eq] at c4
              refine MSpec.ret ⟨v, hx.mono (Env.le_trans L2 l4), fun ty => ?_⟩
              rw [if_pos hk0]
              rcases hd.val with ⟨rfl, _⟩ | ⟨n, hn, rfl⟩
              · exact append_none ht ei (Nat.le_refl 0)
              · exact append_none ht ei (by omega)
            | false =>
              simp only [Bool.false_eq_true, if_false]
              have hk0 : ¬ c.den ρ.is = 0 := by simpa using hbe
              have := appMain_spec (Φ := Φ) (C := C) (h := h2) (w := w2) (c := (c.den ρ.is).toNat) ht ei hz hzs hsz hb hs (hx.mono L2) (hd.mono L2) (Nat.lt_of_lt_of_le hm (Env.le_len L2).2.2) (AtIs.c ρ2 0) (hkk.mono L2)
              rw [if_neg hk0]
              have e2 : ρ2.at m (.c 0) = ⟨(ρ.b m).1, (ρ.b m).2, none⟩ := by
                obtain ⟨τ, rfl⟩ := L2
                simp [Env.at, Env.b_app hm]
              rw [e2] at this
              exact this
          exact key r kk hk
        · rename_i d ed
          have hd := dst_is r0.fact hx ed
          obtain rfl := hy.nils
          have key : MSpec Φ C (do need .leq d.len d.cap; pure x : M SV) ρ h w (AppDoes P t v (.slice none 0 0) w) := by
            refine (need_spec hd.len hd.cap).bind ?_
            rintro _ ρ4 h4 w4 l4 ⟨rfl, hp4, c4⟩
            simp only [cmpB, decide_eq_true_eq] at c4
            refine MSpec.ret ⟨v, hx.mono l4, fun ty => ?_⟩
            rcases hd.val with ⟨rfl, _⟩ | ⟨n, hn, rfl⟩
            · exact append_none ht ei (Nat.le_refl 0)
            · exact append_none ht ei (by omega)
          exact key r kk hk
        · exact hk.elim
      · exact hk.elim
    · exact hk.elim
  · exact hk.elim
end
end Go.Sx
