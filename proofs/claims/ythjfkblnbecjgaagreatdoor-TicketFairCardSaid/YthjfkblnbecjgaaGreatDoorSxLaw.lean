/- From what a law is called with to its template. -/
import Derived.Test.YthjfkblnbecjgaaGreatDoorSxFlat
import Derived.Test.YthjfkblnbecjgaaGreatDoorSxArg
set_option linter.unusedVariables false
namespace Go.Sx
open Go.ChangeShapes Go.WideShapes Go.RowKit

/-! The trees' meaning, step by step. -/
section
variable {Φ : Phi} {is : List Int} {lls : List (List Int)}
theorem den_letI {o : IOp} {t : Tree} : (Tree.letI o t).den Φ is lls ↔ t.den Φ (is ++ [o.den is lls]) lls := by
  simp only [Tree.den]
  exact ⟨fun h => h _ rfl, fun h x e => by subst e; exact h⟩
theorem den_letL {o : LOp} {t : Tree} : (Tree.letL o t).den Φ is lls ↔ t.den Φ is (lls ++ [o.den is lls]) := by
  simp only [Tree.den]
  exact ⟨fun h => h _ rfl, fun h x e => by subst e; exact h⟩
theorem den_ite {a : At} {t e : Tree} : (Tree.ite a t e).den Φ is lls ↔ ((a.den is ≠ 0 → t.den Φ is lls) ∧ (a.den is = 0 → e.den Φ is lls)) := by
  simp only [Tree.den]
theorem den_need {op : BinOp} {a b : At} {t : Tree} : (Tree.need op a b t).den Φ is lls ↔ (cmpB op (a.den is) (b.den is) = true ∧ t.den Φ is lls) := by
  simp only [Tree.den]
theorem den_done {xs : List At} {ls : List Nat} : (Tree.done xs ls).den Φ is lls ↔ Φ.post (xs.map (·.den is)) (ls.map fun l => lls.getD l []) := by
  simp only [Tree.den]
theorem den_both {a b : Tree} : (Tree.both a b).den Φ is lls ↔ (a.den Φ is lls ∧ b.den Φ is lls) := by
  simp only [Tree.den]
theorem den_fail {n : Nat} : (Tree.fail n).den Φ is lls ↔ False := by
  simp only [Tree.den]
theorem den_any {lo hi : At} {t : Tree} : (Tree.any lo hi t).den Φ is lls ↔ ∀ x, lo.den is ≤ x → x ≤ hi.den is → t.den Φ (is ++ [x]) lls := by
  simp only [Tree.den]
end

def ParIs (W : World) (base : Nat) : Par → Value → Env → Prop
  | .one k, v, d => ∃ n, v = k.val n ∧ k.lo ≤ n ∧ n ≤ k.hi ∧ d = ⟨[n], [], []⟩
  | .agg ks, v, d => ∃ ns, v = .agg (valsOf ks ns).toArray ∧ flatOk ks ns ∧ d = ⟨ns, [], []⟩
  | .slc ks, v, d => ∃ a len cap L, 0 < ks.length ∧ v = .slice (some a) len cap ∧ FlatSlice W base ks ks.length a len cap L ∧ d = ⟨[(len : Int), (cap : Int)] ++ (if ks.length = 1 then [] else [((len * ks.length : Nat) : Int)]), [L], [(a.block, a.off)]⟩
  | .nil, v, d => v = .slice none 0 0 ∧ d = .nil
def ParsIs (W : World) (base : Nat) : List Par → List Value → Env → Prop
  | [], vs, D => vs = [] ∧ D = .nil
  | p :: ps, vs, D => ∃ v vs' d D', vs = v :: vs' ∧ ParIs W base p v d ∧ ParsIs W base ps vs' D' ∧ D = d.app D'
theorem ParsIs.none {W : World} {base : Nat} : ParsIs W base [] [] .nil := ⟨rfl, rfl⟩
theorem ParsIs.cons {W : World} {base : Nat} {p : Par} {ps : List Par} {v : Value} {vs : List Value} {d D : Env} (h : ParIs W base p v d) (h' : ParsIs W base ps vs D) : ParsIs W base (p :: ps) (v :: vs) (d.app D) := ⟨v, vs, d, D, rfl, h, h', rfl⟩

structure PInv (W : World) (ro : List (Addr × Value)) (p : PSt) (vs : List Value) (D : Env) : Prop where
  ni : p.ni = D.is.length
  nl : p.nl = D.ls.length
  nb : p.nb = D.bs.length
  rng : ∀ r ∈ p.irng, r.1 < p.ni ∧ r.2.1 ≤ D.is.getD r.1 0 ∧ D.is.getD r.1 0 ≤ r.2.2
  hp : ∀ e ∈ p.hp, e.2.owned = false ∧ BlkOk ⟨W, [], ro⟩ D W e.1 e.2
  oks : SV.oks p.ni p.nb p.args = true
  dens : SV.dens D p.args = vs
  pre : ∀ σ : Env, p.pre (D.app σ).is (D.app σ).ls

theorem PInv.start (W : World) (ro : List (Addr × Value)) : PInv W ro {} [] .nil :=
  ⟨rfl, rfl, rfl, (fun r hr => by cases hr), (fun e he => by cases he), rfl, rfl, fun _ => trivial⟩

theorem den_sv (k : CK) (ρ : Env) (a : At) : SV.den ρ (k.sv a) = k.val (a.den ρ.is) := by
  cases k <;> rfl
theorem dens_mapIdx (ρ : Env) : ∀ (ks : List CK) (ns : List Int) (n : Nat), ns.length = ks.length → (∀ i, i < ns.length → ρ.is.getD (n + i) 0 = ns.getD i 0) → SV.dens ρ (ks.mapIdx fun i k => k.sv (.v (n + i))) = valsOf ks ns
  | [], [], n, _, _ => rfl
  | [], _ :: _, n, h, _ => by simp at h
  | _ :: _, [], n, h, _ => by simp at h
  | k :: ks, m :: ns, n, h, hg => by
    have h0 := hg 0 (by simp)
    have ih := dens_mapIdx ρ ks ns (n + 1) (by simpa using h) fun i hi => by
      have := hg (i + 1) (by simpa using hi)
      rw [show n + 1 + i = n + (i + 1) by omega, this]
      simp
    simp only [List.mapIdx_cons, SV.dens, den_sv, valsOf, At.den, Nat.add_zero]
    have e : (ks.mapIdx fun i k => k.sv (.v (n + (i + 1)))) = ks.mapIdx fun i k => k.sv (.v (n + 1 + i)) := by
      congr 1
      funext i k
      rw [show n + 1 + i = n + (i + 1) by omega]
    have h0' : ρ.is.getD n 0 = m := by simpa using h0
    simp only [h0']
    exact congrArg _ (e ▸ ih)
theorem oks_all {ni nb : Nat} : ∀ {xs : List SV}, (∀ x ∈ xs, SV.ok ni nb x = true) → SV.oks ni nb xs = true
  | [], _ => rfl
  | x :: xs, h => by
    simp only [SV.oks, Bool.and_eq_true]
    exact ⟨h x (List.mem_cons_self ..), oks_all fun y hy => h y (List.mem_cons_of_mem _ hy)⟩
theorem ok_sv {k : CK} {ni nb i : Nat} (h : i < ni) : SV.ok ni nb (k.sv (.v i)) = true := by
  cases k <;> simpa [CK.sv, SV.ok, At.lt] using h

theorem PInv.add {W : World} {base : Nat} {ro : List (Addr × Value)} {p : PSt} {vs : List Value} {D : Env} (I : PInv W ro p vs D) : ∀ {q : Par} {v : Value} {d : Env}, ParIs W base q v d → PInv W ro (p.add q) (vs ++ [v]) (D.app d)
  | .one k, v, d, h => by
    obtain ⟨n, rfl, h1, h2, rfl⟩ := h
    have L : D.is.getD p.ni 0 = D.is.getD D.is.length 0 := by rw [I.ni]
    have hn : (D.app ⟨[n], [], []⟩).is.getD p.ni 0 = n := by simp only [Env.app, I.ni]; exact getD_app_at ..
    refine ⟨by simp [PSt.add, Env.app, I.ni], by simp [PSt.add, Env.app, I.nl], by simp [PSt.add, Env.app, I.nb], ?_, ?_, ?_, ?_, ?_⟩
    · intro r hr
      simp only [PSt.add, List.mem_append, List.mem_singleton] at hr ⊢
      rcases hr with hr | rfl
      · obtain ⟨a, b, c⟩ := I.rng r hr
        rw [show (D.app ⟨[n], [], []⟩).is.getD r.1 0 = D.is.getD r.1 0 from getD_app (by rw [← I.ni]; exact a)]
        exact ⟨by omega, b, c⟩
      · exact ⟨by simp, by rw [hn]; exact h1, by rw [hn]; exact h2⟩
    · exact fun e he => ⟨(I.hp e he).1, (I.hp e he).2.app _⟩
    · exact oks_append (SV.oks_mono (by simp [PSt.add]) (Nat.le_refl _) _ I.oks) (oks_all fun x hx => by simp only [List.mem_singleton] at hx; subst hx; exact ok_sv (by simp [PSt.add]))
    · simp only [PSt.add]
      rw [dens_append, SV.dens_app _ (by rw [← I.ni, ← I.nb]; exact I.oks), I.dens]
      simp only [SV.dens, den_sv, At.den, hn]
    · intro σ
      rw [Env.app_assoc]
      exact I.pre _
  | .agg ks, v, d, h => by
    obtain ⟨ns, rfl, h1, rfl⟩ := h
    have hl := flatOk_len h1
    have hn : ∀ i, i < ns.length → (D.app ⟨ns, [], []⟩).is.getD (p.ni + i) 0 = ns.getD i 0 := by
      intro i hi
      simp [Env.app, I.ni, List.getD, List.getElem?_append_right]
    refine ⟨by simp [PSt.add, Env.app, I.ni, hl], by simp [PSt.add, Env.app, I.nl], by simp [PSt.add, Env.app, I.nb], ?_, ?_, ?_, ?_, ?_⟩
    · intro r hr
      simp only [PSt.add, List.mem_append] at hr ⊢
      rcases hr with hr | hr
      · obtain ⟨a, b, c⟩ := I.rng r hr
        rw [show (D.app ⟨ns, [], []⟩).is.getD r.1 0 = D.is.getD r.1 0 from getD_app (by rw [← I.ni]; exact a)]
        exact ⟨by omega, b, c⟩
      · obtain ⟨i, hi, rfl⟩ := List.mem_mapIdx.1 hr
        have := flatOk_get h1 hi
        simp only
        rw [hn i (by omega)]
        rw [List.getD, List.getElem?_eq_getElem hi, Option.getD_some] at this
        exact ⟨by omega, this⟩
    · exact fun e he => ⟨(I.hp e he).1, (I.hp e he).2.app _⟩
    · refine oks_append (SV.oks_mono (by simp [PSt.add]) (Nat.le_refl _) _ I.oks) (oks_all fun x hx => ?_)
      simp only [List.mem_singleton] at hx
      subst hx
      simp only [SV.ok]
      refine oks_all fun x hx => ?_
      obtain ⟨i, hi, rfl⟩ := List.mem_mapIdx.1 hx
      exact ok_sv (by simp only [PSt.add]; omega)
    · simp only [PSt.add]
      rw [dens_append, SV.dens_app _ (by rw [← I.ni, ← I.nb]; exact I.oks), I.dens]
      simp only [SV.dens, SV.den]
      rw [dens_mapIdx _ ks ns p.ni hl hn]
    · intro σ
      rw [Env.app_assoc]
      exact I.pre _
  | .slc ks, v, d, h => by
    obtain ⟨a, len, cap, L, hk, rfl, F, rfl⟩ := h
    have F1 := F.one hk
    generalize hx : (if ks.length = 1 then [] else [((len * ks.length : Nat) : Int)]) = x
    have hxl : x.length = if ks.length = 1 then 0 else 1 := by subst hx; split <;> rfl
    have hN : ∀ σ : Env, ((D.app ⟨[(len : Int), (cap : Int)] ++ x, [L], [(a.block, a.off)]⟩).app σ).is.getD p.ni 0 = len ∧ ((D.app ⟨[(len : Int), (cap : Int)] ++ x, [L], [(a.block, a.off)]⟩).app σ).is.getD (p.ni + 1) 0 = cap := by
      intro σ
      constructor <;> simp [Env.app, I.ni, List.getD]
    have hN2 : ks.length ≠ 1 → ∀ σ : Env, ((D.app ⟨[(len : Int), (cap : Int)] ++ x, [L], [(a.block, a.off)]⟩).app σ).is.getD (p.ni + 2) 0 = ((len * ks.length : Nat) : Int) := by
      intro h1 σ
      rw [if_neg h1] at hx
      subst hx
      simp [Env.app, I.ni, List.getD]
    have hLl : ∀ σ : Env, ((D.app ⟨[(len : Int), (cap : Int)] ++ x, [L], [(a.block, a.off)]⟩).app σ).ls.getD p.nl [] = L := by
      intro σ
      simp [Env.app, I.nl, List.getD]
    have hn := hN .nil
    have hn2 := fun h => hN2 h .nil
    have hl0 := hLl .nil
    rw [Env.app_nil] at hn hn2 hl0
    have hb : (D.app ⟨[(len : Int), (cap : Int)] ++ x, [L], [(a.block, a.off)]⟩).bs.getD p.nb (0, 0) = (a.block, a.off) := by
      simp only [Env.app, I.nb]; exact getD_app_at ..
    have hdl : (D.app ⟨[(len : Int), (cap : Int)] ++ x, [L], [(a.block, a.off)]⟩).is.length = p.ni + 2 + x.length := by simp [Env.app, I.ni]; omega
    have hle := F.le
    have hmax := F.max
    refine ⟨?_, by simp [PSt.add, Env.app, I.nl], by simp [PSt.add, Env.app, I.nb], ?_, ?_, ?_, ?_, ?_⟩
    · rw [hdl, hxl]
      simp only [PSt.add]
      by_cases h1 : ks.length = 1 <;> simp [h1]
    · intro r hr
      have key : r ∈ p.irng ∨ r = (p.ni, 0, 9223372036854775807) ∨ r = (p.ni + 1, 0, 9223372036854775807) ∨ (ks.length ≠ 1 ∧ r = (p.ni + 2, (0 : Int), (9223372036854775807 : Int) * ks.length)) := by
        simp only [PSt.add, List.mem_append, List.mem_cons, List.not_mem_nil, or_false] at hr
        by_cases h1 : ks.length = 1
        · simp only [h1, beq_self_eq_true, if_true, List.not_mem_nil, or_false] at hr
          rcases hr with hr | hr | hr
          · exact .inl hr
          · exact .inr (.inl hr)
          · exact .inr (.inr (.inl hr))
        · have hb1 : (ks.length == 1) = false := by simpa using h1
          simp only [hb1, Bool.false_eq_true, if_false, List.mem_singleton] at hr
          rcases hr with (hr | hr | hr) | hr
          · exact .inl hr
          · exact .inr (.inl hr)
          · exact .inr (.inr (.inl hr))
          · exact .inr (.inr (.inr ⟨h1, hr⟩))
      have hlt : (p.add (.slc ks)).ni = p.ni + (if ks.length = 1 then 2 else 3) := by
        simp [PSt.add]
      rcases key with hr | rfl | rfl | ⟨h1, rfl⟩
      · obtain ⟨a1, b, c⟩ := I.rng r hr
        rw [show (D.app ⟨[(len : Int), (cap : Int)] ++ x, [L], [(a.block, a.off)]⟩).is.getD r.1 0 = D.is.getD r.1 0 from getD_app (by rw [← I.ni]; exact a1)]
        refine ⟨?_, b, c⟩
        rw [hlt]; split <;> omega
      · refine ⟨?_, ?_, ?_⟩
        · rw [hlt]; simp only; split <;> omega
        · rw [hn.1]; simp only; omega
        · rw [hn.1]; simp only; omega
      · refine ⟨?_, ?_, ?_⟩
        · rw [hlt]; simp only; split <;> omega
        · rw [hn.2]; simp only; omega
        · rw [hn.2]; simp only; omega
      · refine ⟨?_, ?_, ?_⟩
        · rw [hlt, if_neg h1]; simp only; omega
        · rw [hn2 h1]; simp only; exact Int.natCast_nonneg _
        · rw [hn2 h1]; simp only
          have : ((len : Int)) * ks.length ≤ 9223372036854775807 * ks.length := Int.mul_le_mul_of_nonneg_right (by omega) (Int.natCast_nonneg _)
          simpa using this
    · intro e he
      simp only [PSt.add, List.mem_append, List.mem_singleton] at he
      rcases he with he | rfl
      · exact ⟨(I.hp e he).1, (I.hp e he).2.app _⟩
      · refine ⟨rfl, ?_⟩
        refine F1.ro (is := (D.app ⟨[(len : Int), (cap : Int)] ++ x, [L], [(a.block, a.off)]⟩).is) (ls := (D.app ⟨[(len : Int), (cap : Int)] ++ x, [L], [(a.block, a.off)]⟩).ls) (bs := (D.app ⟨[(len : Int), (cap : Int)] ++ x, [L], [(a.block, a.off)]⟩).bs) (by simp [Env.app, I.nb]) hb (by simp [Env.app, I.nl]) hl0 ?_ ?_
        · simp only [At.lt, decide_eq_true_eq, hdl, hxl]
          by_cases h1 : ks.length = 1 <;> simp [h1] <;> omega
        · simp only [At.den]
          by_cases h1 : ks.length = 1
          · simp only [h1, beq_self_eq_true, if_true]
            rw [hn.1, F.length, h1]; simp
          · have hb1 : (ks.length == 1) = false := by simpa using h1
            simp only [hb1, Bool.false_eq_true, if_false]
            rw [hn2 h1, F.length]
    · refine oks_append (SV.oks_mono (by simp [PSt.add]) (by simp [PSt.add]) _ I.oks) (oks_all fun y hy => ?_)
      simp only [List.mem_singleton] at hy
      subst hy
      simp only [SV.ok, At.lt, Bool.and_eq_true, PSt.add]
      by_cases h1 : ks.length = 1 <;> simp [h1]
    · simp only [PSt.add]
      rw [dens_append, SV.dens_app _ (by rw [← I.ni, ← I.nb]; exact I.oks), I.dens]
      simp only [SV.dens]
      have hv := F.val (is := (D.app ⟨[(len : Int), (cap : Int)] ++ x, [L], [(a.block, a.off)]⟩).is) (ls := (D.app ⟨[(len : Int), (cap : Int)] ++ x, [L], [(a.block, a.off)]⟩).ls) (n := p.nb) (la := .v p.ni) (ca := .v (p.ni + 1)) hb hn.1 hn.2
      exact congrArg (fun y => vs ++ [y]) hv
    · intro σ
      refine ⟨by rw [Env.app_assoc]; exact I.pre _, ?_⟩
      unfold slcPre
      rw [(hN σ).1, (hN σ).2, hLl σ]
      refine ⟨by omega, by omega, by rw [F.length]; simp, fun h1 => by rw [hN2 h1 σ]; simp, fun j hj => F1.typed j hj⟩
  | .nil, v, d, h => by
    obtain ⟨rfl, rfl⟩ := h
    rw [Env.app_nil]
    refine ⟨I.ni, I.nl, I.nb, I.rng, I.hp, ?_, ?_, I.pre⟩
    · exact oks_append I.oks (by rfl)
    · simp only [PSt.add]
      rw [dens_append, I.dens]
      rfl

theorem PInv.all {W : World} {base : Nat} {ro : List (Addr × Value)} : ∀ {ps : List Par} {p : PSt} {vs us : List Value} {D E : Env}, PInv W ro p vs D → ParsIs W base ps us E → PInv W ro (ps.foldl PSt.add p) (vs ++ us) (D.app E)
  | [], p, vs, us, D, E, I, h => by
    obtain ⟨rfl, rfl⟩ := h
    simpa [Env.app_nil] using I
  | q :: ps, p, vs, us, D, E, I, h => by
    obtain ⟨v, us', d, E', rfl, h1, h2, rfl⟩ := h
    have := PInv.all (I.add h1) h2
    rw [Env.app_assoc, List.append_assoc] at this
    exact this

/-- A law, by its contract. -/
theorem law_calls {P : Program} {ro : List (Addr × Value)} {f : FuncId} {ps : List Par} {q : List Int → Prop} (hs : ((lawSpec f ps).withPre q).Holds P ro) {fn : Func} {c : Code} (hf : P.funcs[f]? = some fn) (hb : fn.body = some c) (hn : plainName fn = true)
    {W : World} {base : Nat} {vs : List Value} {D : Env} (h : ParsIs W base ps vs D) (hq : q D.is) (hro : ∀ p ∈ ro, W.cell? p.1 = some p.2 ∧ p.1.block < W.heap.size) :
    Calls P f vs.toArray W fun e W' => e = .returned (.bool true) ∧ Frame ⟨W, [], ro⟩ W' := by
  have I : PInv W ro (ps.foldl PSt.add {}) vs D := by
    have := PInv.all (PInv.start W ro) h
    simpa [Env.app, Env.nil] using this
  have := FSpec.law2 hs hf hb hn rfl D.is D.ls D.bs hro ⟨I.ni.symm, I.nl.symm, I.nb.symm⟩ I.rng rfl I.hp I.oks ⟨(by have := I.pre .nil; rw [Env.app_nil] at this; exact this), hq⟩
  rw [show SV.dens ⟨D.is, D.ls, D.bs⟩ ((lawSpec f ps).withPre q).args = vs from I.dens] at this
  exact this

section
variable {H : Type} {enc : TypeId × Value → H} {P : Program} {w : World} {base : Nat} {spare : Nat → Bool} {held : Bool} {r : Reach} {b0 : Nat} {t : TypeId} {v : Value} {d : DataW H} {ps : List MemPlace}
theorem par_int {k : IntKind} (ht : P.underlying t = some (.int k)) (hval : Value.okWide P w r b0 t v) (hd : DataW.Trod enc P w base spare held t v d ps) : ∃ n, ParIs w base (.one (.i k)) v ⟨[n], [], []⟩ := by
  obtain ⟨n, rfl, -, -, h⟩ := open_int ht hval hd
  have := wf_range h
  exact ⟨n, n, rfl, this.1, this.2, rfl⟩
theorem par_bool (ht : P.underlying t = some .bool) (hval : Value.okWide P w r b0 t v) (hd : DataW.Trod enc P w base spare held t v d ps) : ∃ n, ParIs w base (.one .b) v ⟨[n], [], []⟩ := by
  obtain ⟨b, rfl, -, -⟩ := open_bool ht hval hd
  refine ⟨b2i b, b2i b, ?_, ?_, ?_, rfl⟩ <;> cases b <;> first | rfl | decide
theorem par_flat {f : Nat} {ks : List CK} (hag : (match P.underlying t with | some (.struct _) => true | some (.array _ _) => true | _ => false) = true) (hf : flatT P f t = some ks)
    (hval : Value.okWide P w r b0 t v) (hd : DataW.Trod enc P w base spare held t v d ps) : ∃ d, ParIs w base (.agg ks) v d := by
  obtain ⟨ns, h1, h2⟩ := open_flat hag hf hval hd
  exact ⟨_, ns, h1, h2, rfl⟩
theorem par_flats {f : Nat} {e : TypeId} {ks : List CK} (ht : P.underlying t = some (.slice e)) (hf : flatT P f e = some ks) (hc : P.cellsOf e = ks.length) (hk : 0 < ks.length)
    (hval : Value.okWide P w r b0 t v) (hd : DataW.Trod enc P w base spare held t v d ps) : ParIs w base .nil v .nil ∨ ∃ d, ParIs w base (.slc ks) v d := by
  rcases open_flats ht hf hc hk hd hval with h | ⟨a, len, cap, L, h, F⟩
  · exact .inl ⟨h, rfl⟩
  · exact .inr ⟨_, a, len, cap, L, hk, h, F, rfl⟩
end
end Go.Sx
