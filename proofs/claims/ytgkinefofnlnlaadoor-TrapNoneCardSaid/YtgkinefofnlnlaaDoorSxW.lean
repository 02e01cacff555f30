/- Regions that draw their order (2): the executor's way through them. -/
import Derived.Test.YtgkinefofnlnlaaDoorSxV
set_option linter.unusedVariables false
namespace Go.Sx

def loadBlk (o : Oper) (sl : Slots) : Option Nat :=
  match o.op with
  | .load _ x => (match evalO sl x with
    | some (.ptr n _) => some n
    | _ => none)
  | _ => none
def allT (f : Nat → Tree) : List Nat → Tree
  | [] => .fail 191
  | [i] => f i
  | i :: j :: r => .both (f i) (allT f (j :: r))
def sameBlk (h h' : H) (n : Nat) : Bool :=
  match h.blk n, h'.blk n with
  | some b, some b' => blkEq b b'
  | _, _ => false
def drawGo (P : Program) (cfg : Cfg) (ex : CodeF) (ops : Array Oper) : Nat → Array Bool → List Nat → Slots → H → (Slots → H → Tree) → Tree
  | 0, listed, _, sl, h, k => if (Region.ready .any ops listed).isEmpty then k sl h else .fail 190
  | f + 1, listed, used, sl, h, k =>
    match (Region.ready .any ops listed).find? (fun i => match ops[i]? with
        | some o => (pureOp o || (loadBlk o sl).isSome) && Region.free .any ops listed i
        | none => false) with
    | some i => (match ops[i]? with
      | some o => guardM ops sl o h fun b h1 =>
        if b then opM P cfg.ro (evalO sl) o h1 fun sv h2 =>
            drawGo P cfg ex ops f (listed.setIfInBounds i true) (if pureOp o then used else (loadBlk o sl).toList ++ used) (putS sl o.dst sv) h2 k
        else drawGo P cfg ex ops f (listed.setIfInBounds i true) used (putS sl o.dst (.tup [])) h1 k
      | none => .fail 192)
    | none =>
      if (Region.ready .any ops listed).isEmpty then k sl h else
      allT (fun i => match ops[i]? with
        | some o => guardM ops sl o h fun b h1 =>
          if b then stepO P cfg ex o sl h1 fun sv h2 =>
            if used.all (sameBlk h1 h2) then drawGo P cfg ex ops f (listed.setIfInBounds i true) used (putS sl o.dst sv) h2 k else .fail 193
          else drawGo P cfg ex ops f (listed.setIfInBounds i true) used (putS sl o.dst (.tup [])) h1 k
        | none => .fail 194) (Region.ready .any ops listed)
def drawRegion (P : Program) (cfg : Cfg) (ex : CodeF) (ops : Array Oper) (sl : Slots) (h : H) (k : Slots → H → Tree) : Tree :=
  if Region.noSelect ops then drawGo P cfg ex ops ops.size (Array.replicate ops.size false) [] sl h k else .fail 195

def KOf (C : Ctx) (ρ : Env) (used : List Nat) (w : World) : World → Prop := fun W =>
  (∀ b, b < C.w0.heap.size → b ∉ C.own → W.heap[b]? = C.w0.heap[b]?) ∧ ∀ n ∈ used, W.heap[(ρ.b n).1]? = w.heap[(ρ.b n).1]?

section
variable {Φ : Phi} {C : Ctx} {ρ : Env} {h : H} {w : World} {P : Program} {cfg : Cfg}

theorem allT_mem {f : Nat → Tree} {is : List Int} {ls : List (List Int)} : ∀ {l : List Nat}, (allT f l).den Φ is ls → ∀ i ∈ l, (f i).den Φ is ls
  | [], h, i, hi => by cases hi
  | [j], h, i, hi => by
    rcases List.mem_cons.1 hi with rfl | hi
    · exact h
    · cases hi
  | j :: j' :: r, h, i, hi => by
    simp only [allT, Tree.den] at h
    rcases List.mem_cons.1 hi with rfl | hi
    · exact h.1
    · exact allT_mem h.2 i hi

theorem opM_load {ro : List (Addr × Value)} (hro : RoOk C ro) {sl : Slots} {a : Act} (r : RepS ρ sl a) (o : Oper) {n : Nat} (hn : loadBlk o sl = some n) :
    MSpec Φ C (opM P ro (evalO sl) o) ρ h w fun sv ρ' h' w' => w' = w ∧ h'.hp = h.hp ∧ n < ρ.bs.length ∧ ∃ u, SvIs ρ' sv u ∧
      ∀ W : World, W.heap[(ρ.b n).1]? = w.heap[(ρ.b n).1]? → (execOp a.eval o).run P W = .ok (.value u) W := by
  obtain ⟨dst, op, type, pos, after, guard⟩ := o
  unfold loadBlk at hn
  simp only at hn
  split at hn
  · rename_i t x
    split at hn
    · rename_i m oo ex
      cases hn
      simp only [opM]
      unfold with1
      rw [ex]
      simp only
      have hx := evalO_is r ex
      obtain ⟨hm, ho, hv⟩ := hx.ptr
      refine (ldVar_spec2 (P := P) hro (t := t) hx).mono ?_
      rintro sv ρ' h' w' l ⟨e, hp, u, hu, hr⟩
      refine ⟨e, hp, hm, u, hu, fun W hW => ?_⟩
      have := hr W (fun ad had b hb => by
        rw [hv] at had
        simp only [Value.pointer.injEq, Option.some.injEq] at had
        subst had
        have hb' : b.block = (ρ.b n).1 := hb
        unfold World.cell?
        rw [hb', hW])
      simp [execOp, this]
    · cases hn
  · cases hn

theorem KOf.self (r : RepH C ρ h w) (used : List Nat) : KOf C ρ used w w := ⟨fun b hb hno => r.frame.old b hb hno, fun _ _ => rfl⟩
theorem KOf.mono {ρ' : Env} {w' : World} {used : List Nat} (l : ρ.le ρ') (hu : ∀ n ∈ used, n < ρ.bs.length) (hw : ∀ n ∈ used, w'.heap[(ρ.b n).1]? = w.heap[(ρ.b n).1]?) {W : World} (hK : KOf C ρ' used w' W) : KOf C ρ used w W := by
  refine ⟨hK.1, fun n hn => ?_⟩
  have := hK.2 n hn
  have e : ρ'.b n = ρ.b n := by obtain ⟨τ, rfl⟩ := l; exact Env.b_app (hu n hn)
  rw [e] at this
  rw [this, hw n hn]
theorem sameBlk_heap {ρ' : Env} {h' : H} {w' : World} (l : ρ.le ρ') (r : RepH C ρ h w) (r' : RepH C ρ' h' w') {n : Nat} (hs : sameBlk h h' n = true) : w'.heap[(ρ.b n).1]? = w.heap[(ρ.b n).1]? := by
  unfold sameBlk at hs
  split at hs
  · rename_i b b' eb eb'
    have he := blkEq_eq hs
    subst he
    have h1 := r.fact.heap _ (blk_mem eb)
    have h2 := r'.fact.heap _ (blk_mem eb')
    obtain ⟨τ, rfl⟩ := l
    have hb : (ρ.app τ).b n = ρ.b n := Env.b_app h1.lt
    cases b with
    | cells xs el =>
      simp only [BlkOk] at h1 h2
      rw [hb, SV.dens_app xs h1.2.1] at h2
      rw [h1.2.2.2.2, h2.2.2.2.2]
    | arr ks ll len el =>
      simp only [BlkOk] at h1 h2
      have e1 : (ρ.app τ).ls.getD ll [] = ρ.ls.getD ll [] := getD_app h1.2.1
      rw [hb, e1] at h2
      rw [h1.2.2.2.2.2.1, h2.2.2.2.2.2.1]
    | ro ks ll len =>
      simp only [BlkOk] at h1
      rw [r.frame.old _ h1.2.2.2.1 h1.2.2.2.2.1, r'.frame.old _ h1.2.2.2.1 h1.2.2.2.2.1]
  · cases hs

theorem drawGo_sound {ex : CodeF} (hex : CodeOk P C ex) (hcfg : cfg.Ok P) (hro : RoOk C cfg.ro) {ops : Array Oper} (hsel : Region.noSelect ops = true) {Q : Act → World → Prop} :
    ∀ (f : Nat) {ρ : Env} {listed : Array Bool} {used : List Nat} {sl : Slots} {h : H} {a : Act} {w : World} {k : Slots → H → Tree},
    RepS ρ sl a → RepH C ρ h w → (∀ n ∈ used, n < ρ.bs.length) → (drawGo P cfg ex ops f listed used sl h k).den Φ ρ.is ρ.ls →
    (∀ sl' h' ρ' a' w', ρ.le ρ' → RepS ρ' sl' a' → RepH C ρ' h' w' → (k sl' h').den Φ ρ'.is ρ'.ls → Q a' w') → wpAnyK P ops (KOf C ρ used w) Q f listed a w
  | 0, ρ, listed, used, sl, h, a, w, k, rs, r, hu, hd, hk => by
    unfold drawGo at hd
    split at hd
    · rename_i he
      exact ⟨KOf.self r used, by simpa using he, hk _ _ _ _ _ (Env.le_refl ρ) rs r hd⟩
    · exact hd.elim
  | f + 1, ρ, listed, used, sl, h, a, w, k, rs, r, hu, hd, hk => by
    unfold drawGo at hd
    split at hd
    · rename_i i ei
      have him := List.mem_of_find?_eq_some ei
      have hic := List.find?_some ei
      split at hd
      · rename_i o ho
        simp only [ho, Bool.and_eq_true, Bool.or_eq_true] at hic
        obtain ⟨b, ρ1, h1, w1, l1, r1, d1, e1, hp1, hb⟩ := guardM_spec (Φ := Φ) (C := C) (ops := ops) rs o r _ hd
        subst e1
        have rs1 := rs.mono l1
        cases b with
        | true =>
          simp only [if_true] at d1
          cases hpo : pureOp o with
          | true =>
            obtain ⟨sv, ρ2, h2, w2, l2, r2, d2, e2, hp2, v, hv, hrun⟩ := opM_specA (P := P) (ro := cfg.ro) rs1 o hpo r1 _ d1
            subst e2
            simp only [hpo, if_true] at d2
            have l12 := Env.le_trans l1 l2
            have hrec := drawGo_sound hex hcfg hro hsel f (putS_rep (rs1.mono l2) (d := o.dst) hv) r2 (fun n hn => by have := hu n hn; have := (Env.le_len l12).2.2; omega) d2
              (fun sl' h' ρ' a' w' l' => hk sl' h' ρ' a' w' (Env.le_trans l12 l'))
            refine wpAnyK_first ho (Region.noSelect_spec hsel) f listed a w2 (Region.free_spec ho hic.2) him (.inl ⟨hb, fun W _ => hrun W⟩) (KOf.self r used) ?_
            exact wpAnyK_mono (fun W hW => KOf.mono l12 hu (fun _ _ => rfl) hW) f _ _ _ hrec
          | false =>
            have hl : ∃ n, loadBlk o sl = some n := by
              rcases hic.1 with hh | hh
              · rw [hpo] at hh; cases hh
              · exact Option.isSome_iff_exists.1 hh
            obtain ⟨n, hn⟩ := hl
            obtain ⟨sv, ρ2, h2, w2, l2, r2, d2, e2, hp2, hnb, v, hv, hrun⟩ := opM_load (P := P) hro rs1 o hn r1 _ d1
            subst e2
            simp only [hpo, hn, Option.toList_some, Bool.false_eq_true, if_false, List.cons_append, List.nil_append] at d2
            have l12 := Env.le_trans l1 l2
            have hn0 : n < ρ.bs.length := by
              unfold loadBlk at hn
              split at hn
              · split at hn
                · rename_i ex; cases hn; exact (evalO_is rs ex).ptr.1
                · cases hn
              · cases hn
            have hu' : ∀ m ∈ n :: used, m < ρ.bs.length := fun m hm => by
              rcases List.mem_cons.1 hm with rfl | hm
              · exact hn0
              · exact hu m hm
            have hrec := drawGo_sound hex hcfg hro hsel f (putS_rep (rs1.mono l2) (d := o.dst) hv) r2 (fun m hm => by have := hu' m hm; have := (Env.le_len l12).2.2; omega) d2
              (fun sl' h' ρ' a' w' l' => hk sl' h' ρ' a' w' (Env.le_trans l12 l'))
            have hphys : ρ1.b n = ρ.b n := by obtain ⟨τ, rfl⟩ := l1; exact Env.b_app hn0
            have fin := wpAnyK_first (K := KOf C ρ (n :: used) w2) ho (Region.noSelect_spec hsel) f listed a w2 (Region.free_spec ho hic.2) him
              (.inl ⟨hb, fun W hW => hrun W (by rw [hphys]; exact hW.2 n (List.mem_cons_self ..))⟩) (KOf.self r _)
              (wpAnyK_mono (fun W hW => KOf.mono l12 hu' (fun _ _ => rfl) hW) f _ _ _ hrec)
            exact wpAnyK_mono (fun W hW => ⟨hW.1, fun m hm => hW.2 m (List.mem_cons_of_mem _ hm)⟩) _ _ _ _ fin
        | false =>
          simp only [Bool.false_eq_true, if_false] at d1
          have hrec := drawGo_sound hex hcfg hro hsel f (putS_rep rs1 (d := o.dst) (v := undef) ⟨rfl, rfl⟩) r1 (fun n hn => by have := hu n hn; have := (Env.le_len l1).2.2; omega) d1
            (fun sl' h' ρ' a' w' l' => hk sl' h' ρ' a' w' (Env.le_trans l1 l'))
          refine wpAnyK_first ho (Region.noSelect_spec hsel) f listed a w1 (Region.free_spec ho hic.2) him (.inr ⟨hb, rfl⟩) (KOf.self r used) ?_
          exact wpAnyK_mono (fun W hW => KOf.mono l1 hu (fun _ _ => rfl) hW) f _ _ _ hrec
      · exact hd.elim
    · split at hd
      · rename_i he
        have hnil : Region.ready .any ops listed = [] := by simpa using he
        refine ⟨KOf.self r used, fun _ => hk _ _ _ _ _ (Env.le_refl ρ) rs r hd, fun i hi => ?_⟩
        rw [hnil] at hi; cases hi
      · rename_i he
        refine ⟨KOf.self r used, fun h0 => absurd (by simp [h0]) he, fun i hi => ?_⟩
        have hdi := allT_mem hd i hi
        unfold wpOp
        split at hdi
        · rename_i o ho
          rw [ho]
          simp only
          obtain ⟨b, ρ1, h1, w1, l1, r1, d1, e1, hp1, hb⟩ := guardM_spec (Φ := Φ) (C := C) (ops := ops) rs o r _ hdi
          subst e1
          have rs1 := rs.mono l1
          rw [hb]
          cases b with
          | true =>
            simp only [if_true] at d1 ⊢
            left
            refine stepO_sound hex hcfg hro rs1 r1 d1 ?_
            intro sv ρ2 h2 v w2 l2 r2 hv d2
            have l12 := Env.le_trans l1 l2
            split at d2
            · rename_i hsame
              have hrec := drawGo_sound hex hcfg hro hsel f (putS_rep (rs1.mono l2) (d := o.dst) hv) r2 (fun n hn => by have := hu n hn; have := (Env.le_len l12).2.2; omega) d2
                (fun sl' h' ρ' a' w' l' => hk sl' h' ρ' a' w' (Env.le_trans l12 l'))
              refine wpAnyK_mono (fun W hW => KOf.mono l12 hu (fun n hn => ?_) hW) f _ _ _ hrec
              have hh := sameBlk_heap l2 r1 r2 (List.all_eq_true.1 hsame n hn)
              have hphys : ρ1.b n = ρ.b n := by obtain ⟨τ, rfl⟩ := l1; exact Env.b_app (hu n hn)
              rw [hphys] at hh
              exact hh
            · exact d2.elim
          | false =>
            simp only [Bool.false_eq_true, if_false] at d1 ⊢
            have hrec := drawGo_sound hex hcfg hro hsel f (putS_rep rs1 (d := o.dst) (v := undef) ⟨rfl, rfl⟩) r1 (fun n hn => by have := hu n hn; have := (Env.le_len l1).2.2; omega) d1
              (fun sl' h' ρ' a' w' l' => hk sl' h' ρ' a' w' (Env.le_trans l1 l'))
            exact wpAnyK_mono (fun W hW => KOf.mono l1 hu (fun _ _ => rfl) hW) f _ _ _ hrec
        · exact hdi.elim

theorem RepH.drew (r : RepH C ρ h w) : RepH C ρ h { w with drawn := w.drawn + 1 } :=
  ⟨r.ni, r.nl, r.nb, fun σ => let f := r.facts σ; ⟨fun e he => (f.heap e he).keep rfl, f.nodup, f.rng, f.defs, f.lrng⟩, ⟨r.frame.size, r.frame.old, r.frame.os, r.frame.output⟩⟩

theorem drawRegion_sound {ex : CodeF} (hex : CodeOk P C ex) (hcfg : cfg.Ok P) (hro : RoOk C cfg.ro) (hmix : P.follows .mixedOrders = true) {id : Nat} {ops : Array Oper} {sl : Slots} {a : Act} {k : Slots → H → Tree} {Q : Exit → Act → World → Prop}
    (rs : RepS ρ sl a) (r : RepH C ρ h w) (hd : (drawRegion P cfg ex ops sl h k).den Φ ρ.is ρ.ls)
    (hk : ∀ sl' h' ρ' a' w', ρ.le ρ' → RepS ρ' sl' a' → RepH C ρ' h' w' → (k sl' h').den Φ ρ'.is ρ'.ls → Q .normal a' w') : (Code.region id ops true).wp P Q a w := by
  unfold drawRegion at hd
  split at hd
  · rename_i hsel
    exact wp_region_any hmix (wpAnyK_any (fun _ _ hq => hq) _ _ _ _ (drawGo_sound hex hcfg hro hsel _ rs r.drew (fun _ hn => by cases hn) hd hk))
  · exact hd.elim
end
end Go.Sx
