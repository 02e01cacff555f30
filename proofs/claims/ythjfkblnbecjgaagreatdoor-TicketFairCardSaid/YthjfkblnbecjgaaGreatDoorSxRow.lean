/- From a contract to a row: what a law leaves of its arguments. -/
import Derived.Test.YthjfkblnbecjgaaGreatDoorSxRef
import Derived.ProofKit
import Derived.Carry
import Derived.ChangeVars
import Derived.LaidLaws
import Derived.LaidHandle
import Derived.Stop.Joined
set_option linter.unusedVariables false
namespace Go.Sx
open Go.ChangeShapes Go.WideShapes Go.RowKit

section
variable {H : Type} {enc : TypeId × Value → H} {P : Program}

theorem trodAll_stays (hl : laidOutB P = true) {W W' : World} (hsame : ∀ p : MemPlace, p.block < W.heap.size → W.sameAt W' p) :
    ∀ {ts : List TypeId} {vs : List Value} {ds : List (DataW H)} {ps : List MemPlace}, (ts.all fun t => P.readableRec t && decide (t < P.types.size)) = true →
    DataW.TrodAll enc P W 0 (fun _ => true) true ts vs ds ps → (∀ x ∈ ps, x.block < W.heap.size) → DataW.TrodAll enc P W' 0 (fun b => decide (b < W.heap.size)) true ts vs ds ps
  | [], vs, ds, ps, _, h, _ => by
    cases vs <;> cases ds <;> exact h
  | t :: ts, [], ds, ps, _, h, _ => by cases ds <;> exact h.elim
  | t :: ts, v :: vs, [], ps, _, h, _ => h.elim
  | t :: ts, v :: vs, d :: ds, ps, ht, h, hlt => by
    simp only [List.all_cons, Bool.and_eq_true, decide_eq_true_eq] at ht
    obtain ⟨p, q, h1, h2, e⟩ := h
    subst e
    refine ⟨p, q, ?_, ?_, rfl⟩
    · exact WideElems.Trod_stays hl ht.1.1 ht.1.2 h1 (fun x hx => hsame x (hlt x (List.mem_append_left _ hx))) (fun x hx => by simpa using hlt x (List.mem_append_left _ hx))
    · exact trodAll_stays hl hsame (by simpa using ht.2) h2 fun x hx => hlt x (List.mem_append_right _ hx)

theorem frame_same {W W' : World} {ro : List (Addr × Value)} (h : Frame ⟨W, [], ro⟩ W') {p : MemPlace} (hp : p.block < W.heap.size) : W.sameAt W' p := by
  have hb := h.old p.block hp (by simp)
  cases p with
  | cell b o => exact World.cell?_of_block (w := W) hb
  | map b => exact hb
theorem frame_kept {W W' : World} {ro : List (Addr × Value)} (h : Frame ⟨W, [], ro⟩ W') (may : MemPlace → Prop) : W.keptBut W' may := by
  refine ⟨h.os, h.output, fun i hi => ?_⟩
  rw [h.old i hi (by simp)]
  split <;> simp_all
theorem post_kept {f : Func} {s : ChangeSpec} {apart : Bool} {W W' : World} {args : Array Value} {ds gs : List (DataW H)} {before : List MemPlace} {ro : List (Addr × Value)} {tb : TypeId}
    (hl : laidOutB P = true) (hts : (f.params.toList.all fun t => P.readableRec t && decide (t < P.types.size)) = true) (hvars : s.vars = []) (hres : f.resultTypes = #[tb]) (hb : P.underlying tb = some .bool)
    (hW : DataW.Whole enc P f.params.toList s.vars apart W args.toList ds gs before) (hfr : Frame ⟨W, [], ro⟩ W')
    (hfn : s.fn H (ds ++ gs) = { results := [.lit (.bool true)], args := ds }) : s.post enc P f apart true false false W args (.bool true) W' := by
  have hW' := hW
  obtain ⟨p, q, hA, hV, e, hnf, hnd⟩ := hW
  have hlt : ∀ x ∈ before, x.block < W.heap.size := fun x hx => by simpa using hW'.lt x hx
  have hgs : gs = [] ∧ q = [] := by
    rw [hvars] at hV
    cases gs with
    | nil => exact ⟨rfl, hV⟩
    | cons g r => exact absurd hV (by intro h; cases h)
  refine ⟨ds, gs, before, [], p, [], hW', ?_, ?_, ?_, frame_kept hfr _, fun h => by cases h⟩
  · rw [hfn, hres]; exact trodAll_mk1 (shut_bool hb true)
  · rw [hfn]; exact trodAll_stays hl (fun x hx => frame_same hfr hx) hts hA fun x hx => hlt x (by rw [e]; exact List.mem_append_left _ hx)
  · rw [hfn, hvars]; rfl
end

theorem calls_of_invokes {P : Program} {f : FuncId} {fn : Func} {c : Code} (hf : P.funcs[f]? = some fn) (hb : fn.body = some c) (hn : plainName fn = true) {vs : Array Value} {w : World} {K : Value → World → Prop} (h : Invokes P f vs w K) :
    Calls P f vs w fun e w' => ∃ v, e = .returned v ∧ K v w' := by
  unfold Invokes at h
  rw [callFunc_enter hf hb hn] at h
  exact h

/-- The start of a contract without blocks. -/
theorem FSpec.start {s : FSpec} {ro : List (Addr × Value)} (hhp : s.hp = []) (hnl : s.nl = 0) (hnb : s.nb = 0) (hlr : s.ilrng = []) {is : List Int} (hlen : is.length = s.ni) (hr : ∀ r ∈ s.irng, r.1 < s.ni ∧ r.2.1 ≤ is.getD r.1 0 ∧ is.getD r.1 0 ≤ r.2.2) (W : World) :
    RepH (s.ctx ⟨is, [], []⟩ W ro) ⟨is, [], []⟩ s.H0 W := by
  refine ⟨hlen, by simp [FSpec.H0, hnl], by simp [FSpec.H0, hnb], Facts.of ?_ ?_ ?_ ?_ ?_, ⟨Nat.le_refl _, fun _ _ _ => rfl, rfl, rfl⟩⟩
  · intro e he; simp only [FSpec.H0, hhp] at he; cases he
  · simp [FSpec.H0, hhp, ownPhys]
  · intro r hr' σ
    have := hr r hr'
    rw [show ((⟨is, [], []⟩ : Env).app σ).is.getD r.1 0 = is.getD r.1 0 from getD_app (by rw [hlen]; exact this.1)]
    exact this.2
  · intro d hd; cases hd
  · intro r hr' ; simp only [FSpec.H0, hlr] at hr'; cases hr'

/-- A law without blocks, by its contract. -/
theorem FSpec.law {P : Program} {ro : List (Addr × Value)} {s : FSpec} (hs : s.Holds P ro) {fn : Func} {c : Code} (hf : P.funcs[s.f]? = some fn) (hb : fn.body = some c) (hn : plainName fn = true)
    (hhp : s.hp = []) (hnl : s.nl = 0) (hnb : s.nb = 0) (hlr : s.ilrng = []) (hres : s.res = .b (.c 1)) {is : List Int} (hlen : is.length = s.ni)
    (hr : ∀ r ∈ s.irng, r.1 < s.ni ∧ r.2.1 ≤ is.getD r.1 0 ∧ is.getD r.1 0 ≤ r.2.2) (hok : SV.oks s.ni 0 s.args = true) (hpre : s.rel.pre is []) {W : World} (hro : ∀ p ∈ ro, W.cell? p.1 = some p.2 ∧ p.1.block < W.heap.size) :
    Calls P s.f (SV.dens ⟨is, [], []⟩ s.args).toArray W fun e W' => e = .returned (.bool true) ∧ Frame ⟨W, [], ro⟩ W' := by
  have hown : ownPhys ⟨is, [], []⟩ s.hp = [] := by rw [hhp]; rfl
  have hctx : s.ctx ⟨is, [], []⟩ W ro = ⟨W, [], ro⟩ := by unfold FSpec.ctx; rw [hown]
  have h := hs W ⟨is, [], []⟩ (by rw [hctx]; exact fun p hp => ⟨(hro p hp).1, (hro p hp).2, by simp⟩) (FSpec.start hhp hnl hnb hlr hlen hr W) (by rw [hlen]; exact hok) hpre
  refine (calls_of_invokes hf hb hn h).mono ?_
  rintro e W' ⟨v, rfl, τ, hp⟩
  have hv := hp.val
  rw [hres] at hv
  obtain ⟨_, rfl⟩ := hv.bool
  refine ⟨rfl, ?_⟩
  have := hp.rep.frame
  rw [hctx] at this
  exact this
/-- A law whose arguments' blocks are only read, by its contract. -/
theorem FSpec.law2 {P : Program} {ro : List (Addr × Value)} {s : FSpec} (hs : s.Holds P ro) {fn : Func} {c : Code} (hf : P.funcs[s.f]? = some fn) (hb : fn.body = some c) (hn : plainName fn = true)
    (hres : s.res = .b (.c 1)) {W : World} (is : List Int) (ls : List (List Int)) (bs : List (Nat × Nat)) (hro : ∀ p ∈ ro, W.cell? p.1 = some p.2 ∧ p.1.block < W.heap.size)
    (hlen : is.length = s.ni ∧ ls.length = s.nl ∧ bs.length = s.nb) (hr : ∀ r ∈ s.irng, r.1 < s.ni ∧ r.2.1 ≤ is.getD r.1 0 ∧ is.getD r.1 0 ≤ r.2.2) (hlr : s.ilrng = [])
    (hblk : ∀ e ∈ s.hp, e.2.owned = false ∧ BlkOk ⟨W, [], ro⟩ ⟨is, ls, bs⟩ W e.1 e.2) (hok : SV.oks s.ni s.nb s.args = true) (hpre : s.rel.pre is ls) :
    Calls P s.f (SV.dens ⟨is, ls, bs⟩ s.args).toArray W fun e W' => e = .returned (.bool true) ∧ Frame ⟨W, [], ro⟩ W' := by
  have hown : ownPhys ⟨is, ls, bs⟩ s.hp = [] := by
    unfold ownPhys
    rw [List.flatMap_eq_nil_iff]
    exact fun e he => ro_phys (hblk e he).1 _ _
  have hctx : s.ctx ⟨is, ls, bs⟩ W ro = ⟨W, [], ro⟩ := by unfold FSpec.ctx; rw [hown]
  have h := hs W ⟨is, ls, bs⟩ (by rw [hctx]; exact fun p hp => ⟨(hro p hp).1, (hro p hp).2, by simp⟩) ?_ (by rw [hlen.1, hlen.2.2]; exact hok) hpre
  · refine (calls_of_invokes hf hb hn h).mono ?_
    rintro e W' ⟨v, rfl, τ, hp⟩
    have hv := hp.val
    rw [hres] at hv
    obtain ⟨_, rfl⟩ := hv.bool
    refine ⟨rfl, ?_⟩
    have := hp.rep.frame
    rw [hctx] at this
    exact this
  · rw [hctx]
    refine ⟨hlen.1, hlen.2.1, hlen.2.2, Facts.of (fun e he => (hblk e he).2) (by show (ownPhys ⟨is, ls, bs⟩ s.hp).Nodup; rw [hown]; simp) (fun q hq σ => ?_) (fun d hd => by cases hd) (fun q hq => by simp only [FSpec.H0, hlr] at hq; cases hq), ⟨Nat.le_refl _, fun _ _ _ => rfl, rfl, rfl⟩⟩
    have := hr q hq
    rw [show ((⟨is, ls, bs⟩ : Env).app σ).is.getD q.1 0 = is.getD q.1 0 from getD_app (by rw [hlen.1]; exact this.1)]
    exact this.2
end Go.Sx
