/- Regions that draw their order (2): the executor's way through them. -/
import Derived.Test.YthjfkblnbecjgaaGreatDoorSxV
set_option linter.unusedVariables false
namespace Go.Sx

def loadBlk (o : Oper) (sl : Slots) : Option Nat :=
  match o.op with
  | .load _ x => (match evalO sl x with
    | some (.ptr n _) => some n
    | _ => none)
  | _ => none
def allT (f : Nat → Tree) : List Nat → Tree
  | [] => .fail 191
  | [i] => f i
  | i :: j :: r => .both (f i) (allT f (j :: r))
def sameBlk (h h' : H) (n : Nat) : Bool :=
  match h.blk n, h'.blk n with
  | some b, some b' => blkEq b b'
  | _, _ => false
def drawGo (P : Program) (cfg : Cfg) (ex : CodeF) (ops : Array Oper) : Nat → Array Bool → List (Nat × Nat) → List Nat → Slots → H → (Slots → H → Tree) → Tree
  | 0, listed, _, _, sl, h, k => if (Region.ready .any ops listed).isEmpty then k sl h else .fail 190
  | f + 1, listed, used, hst, sl, h, k =>
    match (Region.ready .any ops listed).find? (fun i => match ops[i]? with
        | some o => (pureOp o || (loadBlk o sl).isSome) && Region.free .any ops listed i
        | none => false) with
    | some i => (match ops[i]? with
      | some o => guardM ops sl o h fun b h1 =>
        if b then prepO sl o h1 fun _ h1 => opM P cfg.ro (evalO sl) o h1 fun sv h2 =>
            drawGo P cfg ex ops f (listed.setIfInBounds i true) (if pureOp o then used else (loadBlk o sl).toList.map (·, i) ++ used) (i :: hst) (putS sl o.dst sv) h2 k
        else drawGo P cfg ex ops f (listed.setIfInBounds i true) used (i :: hst) (putS sl o.dst (.tup [])) h1 k
      | none => .fail 192)
    | none =>
      if (Region.ready .any ops listed).isEmpty then k sl h else
      allT (fun i => match ops[i]? with
        | some o => guardM ops sl o h fun b h1 =>
          if b then stepO P cfg ex o sl h1 fun sv h2 =>
            if (used.filter fun u => !waitsFor ops ops.size i u.2).all (fun u => sameBlk h1 h2 u.1) && !hst.contains i then
              drawGo P cfg ex ops f (listed.setIfInBounds i true) (used.filter fun u => !waitsFor ops ops.size i u.2) hst (putS sl o.dst sv) h2 k else .fail 193
          else drawGo P cfg ex ops f (listed.setIfInBounds i true) used hst (putS sl o.dst (.tup [])) h1 k
        | none => .fail 194) (Region.ready .any ops listed)
def drawRegion (P : Program) (cfg : Cfg) (ex : CodeF) (ops : Array Oper) (sl : Slots) (h : H) (k : Slots → H → Tree) : Tree :=
  if Region.noSelect ops then drawGo P cfg ex ops ops.size (Array.replicate ops.size false) [] [] sl h k else .fail 195

structure KOf (ops : Array Oper) (C : Ctx) (ρ : Env) (h : H) (used : List (Nat × Nat)) (hst : List Nat) (l : Array Bool) (W : World) : Prop where
  old : ∀ b, b < C.w0.heap.size → b ∉ C.own → W.heap[b]? = C.w0.heap[b]?
  blk : ∀ u ∈ used, (∀ j, l.getD j false = true → j ∉ hst → waitsFor ops ops.size j u.2 = false) → KW C ρ h u.1 W

section
variable {Φ : Phi} {C : Ctx} {ρ : Env} {h : H} {w : World} {P : Program} {cfg : Cfg}

theorem allT_mem {f : Nat → Tree} {is : List Int} {ls : List (List Int)} : ∀ {l : List Nat}, (allT f l).den Φ is ls → ∀ i ∈ l, (f i).den Φ is ls
  | [], h, i, hi => by cases hi
  | [j], h, i, hi => by
    rcases List.mem_cons.1 hi with rfl | hi
    · exact h
    · cases hi
  | j :: j' :: r, h, i, hi => by
    simp only [allT, Tree.den] at h
    rcases List.mem_cons.1 hi with rfl | hi
    · exact h.1
    · exact allT_mem h.2 i hi

theorem opM_load {ro : List (Addr × Value)} (hro : RoOk C ro) {sl : Slots} {a : Act} (r : RepS ρ sl a) (o : Oper) {n : Nat} (hn : loadBlk o sl = some n) :
    MSpec Φ C (opM P ro (evalO sl) o) ρ h w fun sv ρ' h' w' => w' = w ∧ h'.hp = h.hp ∧ n < ρ.bs.length ∧ ∃ u, SvIs ρ' sv u ∧
      ∀ W : World, KW C ρ h n W → (execOp a.eval o).run P W = .ok (.value u) W := by
  obtain ⟨dst, op, type, pos, after, guard⟩ := o
  unfold loadBlk at hn
  simp only at hn
  split at hn
  · rename_i t x
    split at hn
    · rename_i m oo ex
      cases hn
      simp only [opM]
      unfold with1
      rw [ex]
      simp only
      have hx := evalO_is r ex
      obtain ⟨hm, ho, hv⟩ := hx.ptr
      refine (ldVar_spec2 (P := P) hro (t := t) hx).mono ?_
      rintro sv ρ' h' w' l ⟨e, hp, u, hu, hr⟩
      refine ⟨e, hp, hm, u, hu, fun W hW => ?_⟩
      have := hr W ⟨hW.old, fun n' o' e => by cases e; exact hW⟩
      simp [execOp, this]
    · cases hn
  · cases hn

theorem KOf.self {ops : Array Oper} (r : RepH C ρ h w) (used : List (Nat × Nat)) (hst : List Nat) (l : Array Bool) : KOf ops C ρ h used hst l w := ⟨fun b hb hno => r.frame.old b hb hno, fun u _ _ => KW.self r u.1⟩
theorem KOf.less1 {ops : Array Oper} {used more : List (Nat × Nat)} {hst : List Nat} {i : Nat} {l : Array Bool} {W : World} (hK : KOf ops C ρ h (more ++ used) (i :: hst) l W) : KOf ops C ρ h used hst l W :=
  ⟨hK.old, fun u hu hc => hK.blk u (List.mem_append_right _ hu) fun j hj hjn => hc j hj fun hm => hjn (List.mem_cons_of_mem _ hm)⟩
theorem KOf.less2 {ops : Array Oper} {used more : List (Nat × Nat)} {hst : List Nat} {i : Nat} {l : Array Bool} {W : World} (hK : KOf ops C ρ h (more ++ used) (i :: hst) (l.setIfInBounds i true) W) : KOf ops C ρ h used hst l W :=
  ⟨hK.old, fun u hu hc => hK.blk u (List.mem_append_right _ hu) fun j hj hjn => by
    have hji : j ≠ i := fun e => hjn (by rw [e]; exact List.mem_cons_self ..)
    refine hc j ?_ fun hm => hjn (List.mem_cons_of_mem _ hm)
    simpa [Array.getElem?_setIfInBounds_ne (Ne.symm hji)] using hj⟩
theorem sameBlk_eq {h h' : H} {n : Nat} (hs : sameBlk h h' n = true) : h'.blk n = h.blk n := by
  unfold sameBlk at hs
  split at hs
  · rename_i b b' eb eb'
    rw [eb, eb', blkEq_eq hs]
  · cases hs

theorem drawGo_sound {ex : CodeF} (hex : CodeOk P C ex) (hcfg : cfg.Ok P) (hro : RoOk C cfg.ro) {ops : Array Oper} (hsel : Region.noSelect ops = true) {Q : Act → World → Prop} :
    ∀ (f : Nat) {ρ : Env} {listed : Array Bool} {used : List (Nat × Nat)} {hst : List Nat} {sl : Slots} {h : H} {a : Act} {w : World} {k : Slots → H → Tree},
    RepS ρ sl a → RepH C ρ h w → ClosedL ops listed → (drawGo P cfg ex ops f listed used hst sl h k).den Φ ρ.is ρ.ls →
    (∀ sl' h' ρ' a' w', ρ.le ρ' → RepS ρ' sl' a' → RepH C ρ' h' w' → (k sl' h').den Φ ρ'.is ρ'.ls → Q a' w') → wpAnyK P ops (KOf ops C ρ h used hst) Q f listed a w
  | 0, ρ, listed, used, hst, sl, h, a, w, k, rs, r, hcl, hd, hk => by
    unfold drawGo at hd
    split at hd
    · rename_i he
      exact ⟨KOf.self r used hst listed, by simpa using he, hk _ _ _ _ _ (Env.le_refl ρ) rs r hd⟩
    · exact hd.elim
  | f + 1, ρ, listed, used, hst, sl, h, a, w, k, rs, r, hcl, hd, hk => by
    unfold drawGo at hd
    split at hd
    · rename_i i ei
      have him := List.mem_of_find?_eq_some ei
      have hic := List.find?_some ei
      split at hd
      · rename_i o ho
        simp only [ho, Bool.and_eq_true, Bool.or_eq_true] at hic
        obtain ⟨b, ρ1, h1, w1, l1, r1, d1, e1, hp1, hb⟩ := guardM_spec (Φ := Φ) (C := C) (ops := ops) rs o r _ hd
        subst e1
        have rs1 := rs.mono l1
        cases b with
        | true =>
          simp only [if_true] at d1
          obtain ⟨_, ρ1', h1', w1', l1', r1', d1, e1', hKW⟩ := prepO_spec (Φ := Φ) (C := C) (w := w1) (sl := sl) (o := o) r1 _ d1
          subst e1'
          have rs1 := rs1.mono l1'
          have hKW1 : ∀ m W, KW C ρ1' h1' m W → KW C ρ h m W := fun m W hW => ((hKW m W).1 hW).back r l1 (blk_of_hp hp1 m)
          have hKW2 : ∀ m W, KW C ρ h m W → KW C ρ1' h1' m W := fun m W hW => (hKW m W).2 (hW.mono r l1 (blk_of_hp hp1 m))
          have l1 := Env.le_trans l1 l1'
          cases hpo : pureOp o with
          | true =>
            obtain ⟨sv, ρ2, h2, w2, l2, r2, d2, e2, hp2, v, hv, hrun⟩ := opM_specA (P := P) (ro := cfg.ro) rs1 o hpo r1' _ d1
            subst e2
            simp only [hpo, if_true] at d2
            have l12 := Env.le_trans l1 l2
            have hrec := drawGo_sound hex hcfg hro hsel f (putS_rep (rs1.mono l2) (d := o.dst) hv) r2 (hcl.set him) d2
              (fun sl' h' ρ' a' w' l' => hk sl' h' ρ' a' w' (Env.le_trans l12 l'))
            have hrec' : wpAnyK P ops (KOf ops C ρ h ([] ++ used) (i :: hst)) Q f (listed.setIfInBounds i true) (a.put o.dst v) w2 :=
              wpAnyK_mono f _ _ _ (fun l W _ hK => ⟨hK.old, fun u hu hc => hKW1 u.1 W ((hK.blk u hu hc).back r1' l2 (blk_of_hp hp2 u.1))⟩) hrec
            exact wpAnyK_first (Ki := fun _ => True) ho (Region.noSelect_spec hsel) (fun _ _ _ _ _ => trivial) (fun _ _ => KOf.less1) (fun _ _ => KOf.less2) f listed a w2 (Region.free_spec ho hic.2) hcl him (.inl ⟨hb, fun W _ => hrun W⟩) trivial hrec'
          | false =>
            have hl : ∃ n, loadBlk o sl = some n := by
              rcases hic.1 with hh | hh
              · rw [hpo] at hh; cases hh
              · exact Option.isSome_iff_exists.1 hh
            obtain ⟨n, hn⟩ := hl
            obtain ⟨sv, ρ2, h2, w2, l2, r2, d2, e2, hp2, hnb, v, hv, hrun⟩ := opM_load (P := P) hro rs1 o hn r1' _ d1
            subst e2
            simp only [hpo, hn, Option.toList_some, Bool.false_eq_true, if_false, List.map_cons, List.map_nil] at d2
            have l12 := Env.le_trans l1 l2
            have hrec := drawGo_sound hex hcfg hro hsel f (putS_rep (rs1.mono l2) (d := o.dst) hv) r2 (hcl.set him) d2
              (fun sl' h' ρ' a' w' l' => hk sl' h' ρ' a' w' (Env.le_trans l12 l'))
            have hrec' : wpAnyK P ops (KOf ops C ρ h ([(n, i)] ++ used) (i :: hst)) Q f (listed.setIfInBounds i true) (a.put o.dst v) w2 :=
              wpAnyK_mono f _ _ _ (fun l W _ hK => ⟨hK.old, fun u hu hc => hKW1 u.1 W ((hK.blk u hu hc).back r1' l2 (blk_of_hp hp2 u.1))⟩) hrec
            refine wpAnyK_first (Ki := fun W => KW C ρ h n W) ho (Region.noSelect_spec hsel) (fun l W hcl' hun hK => ?_) (fun _ _ => KOf.less1) (fun _ _ => KOf.less2) f listed a w2 (Region.free_spec ho hic.2) hcl him
              (.inl ⟨hb, fun W hW => hrun W (hKW2 n W hW)⟩) (KW.self r n) hrec'
            refine hK.blk (n, i) (List.mem_append_left _ (List.mem_singleton.2 rfl)) fun j hj hjn => ?_
            have hji : j ≠ i := fun e => hjn (by rw [e]; exact List.mem_cons_self ..)
            have hj' : l.getD j false = true := by simpa [Array.getElem?_setIfInBounds_ne (Ne.symm hji)] using hj
            cases hw : waitsFor ops ops.size j i with
            | false => rfl
            | true =>
              have := hcl'.waits _ j i hw hj'
              rw [hun] at this
              cases this
        | false =>
          simp only [Bool.false_eq_true, if_false] at d1
          have hrec := drawGo_sound hex hcfg hro hsel f (putS_rep rs1 (d := o.dst) (v := undef) ⟨rfl, rfl⟩) r1 (hcl.set him) d1
            (fun sl' h' ρ' a' w' l' => hk sl' h' ρ' a' w' (Env.le_trans l1 l'))
          have hrec' : wpAnyK P ops (KOf ops C ρ h ([] ++ used) (i :: hst)) Q f (listed.setIfInBounds i true) (a.put o.dst undef) w1 :=
            wpAnyK_mono f _ _ _ (fun l W _ hK => ⟨hK.old, fun u hu hc => (hK.blk u hu hc).back r l1 (blk_of_hp hp1 u.1)⟩) hrec
          exact wpAnyK_first (Ki := fun _ => True) ho (Region.noSelect_spec hsel) (fun _ _ _ _ _ => trivial) (fun _ _ => KOf.less1) (fun _ _ => KOf.less2) f listed a w1 (Region.free_spec ho hic.2) hcl him (.inr ⟨hb, rfl⟩) trivial hrec'
      · exact hd.elim
    · split at hd
      · rename_i he
        have hnil : Region.ready .any ops listed = [] := by simpa using he
        refine ⟨KOf.self r used hst listed, fun _ => hk _ _ _ _ _ (Env.le_refl ρ) rs r hd, fun i hi => ?_⟩
        rw [hnil] at hi; cases hi
      · rename_i he
        refine ⟨KOf.self r used hst listed, fun h0 => absurd (by simp [h0]) he, fun i hi => ?_⟩
        have hdi := allT_mem hd i hi
        unfold wpOp
        split at hdi
        · rename_i o ho
          rw [ho]
          simp only
          obtain ⟨b, ρ1, h1, w1, l1, r1, d1, e1, hp1, hb⟩ := guardM_spec (Φ := Φ) (C := C) (ops := ops) rs o r _ hdi
          subst e1
          have rs1 := rs.mono l1
          rw [hb]
          cases b with
          | true =>
            simp only [if_true] at d1 ⊢
            left
            refine stepO_sound hex hcfg hro rs1 r1 d1 ?_
            intro sv ρ2 h2 v w2 l2 r2 hv d2
            have l12 := Env.le_trans l1 l2
            split at d2
            · rename_i hsame
              simp only [Bool.and_eq_true, Bool.not_eq_true'] at hsame
              have hrec := drawGo_sound hex hcfg hro hsel f (putS_rep (rs1.mono l2) (d := o.dst) hv) r2 (hcl.set hi) d2
                (fun sl' h' ρ' a' w' l' => hk sl' h' ρ' a' w' (Env.le_trans l12 l'))
              refine wpAnyK_mono f _ _ _ (fun l W hl hK => ⟨hK.old, fun u hu hc => ?_⟩) hrec
              have hil : l.getD i false = true := by
                refine hl i ?_
                have h0 := (mem_ready.1 hi).1
                rcases Nat.lt_or_ge i listed.size with h' | h'
                · simp [h']
                · simp [Array.getElem?_eq_none h'] at h0
              have hin : i ∉ hst := by
                have := hsame.2
                intro hm
                rw [List.contains_eq_mem, decide_eq_false_iff_not] at this
                exact this hm
              have hwf := hc i hil hin
              have hu' : u ∈ used.filter fun u => !waitsFor ops ops.size i u.2 := List.mem_filter.2 ⟨hu, by simp [hwf]⟩
              exact (hK.blk u hu' hc).back r l12 ((sameBlk_eq (List.all_eq_true.1 hsame.1 u hu')).trans (blk_of_hp hp1 u.1))
            · exact d2.elim
          | false =>
            simp only [Bool.false_eq_true, if_false] at d1 ⊢
            have hrec := drawGo_sound hex hcfg hro hsel f (putS_rep rs1 (d := o.dst) (v := undef) ⟨rfl, rfl⟩) r1 (hcl.set hi) d1
              (fun sl' h' ρ' a' w' l' => hk sl' h' ρ' a' w' (Env.le_trans l1 l'))
            exact wpAnyK_mono f _ _ _ (fun l W _ hK => ⟨hK.old, fun u hu hc => (hK.blk u hu hc).back r l1 (blk_of_hp hp1 u.1)⟩) hrec
        · exact hdi.elim

theorem RepH.drew (r : RepH C ρ h w) : RepH C ρ h { w with drawn := w.drawn + 1 } :=
  ⟨r.ni, r.nl, r.nb, fun σ => let f := r.facts σ; ⟨fun e he => (f.heap e he).keep rfl, f.nodup, f.rng, f.defs, f.lrng⟩, ⟨r.frame.size, r.frame.old, r.frame.os, r.frame.output⟩⟩

theorem drawRegion_sound {ex : CodeF} (hex : CodeOk P C ex) (hcfg : cfg.Ok P) (hro : RoOk C cfg.ro) (hmix : P.follows .mixedOrders = true) {id : Nat} {ops : Array Oper} {sl : Slots} {a : Act} {k : Slots → H → Tree} {Q : Exit → Act → World → Prop}
    (rs : RepS ρ sl a) (r : RepH C ρ h w) (hd : (drawRegion P cfg ex ops sl h k).den Φ ρ.is ρ.ls)
    (hk : ∀ sl' h' ρ' a' w', ρ.le ρ' → RepS ρ' sl' a' → RepH C ρ' h' w' → (k sl' h').den Φ ρ'.is ρ'.ls → Q .normal a' w') : (Code.region id ops true).wp P Q a w := by
  unfold drawRegion at hd
  split at hd
  · rename_i hsel
    exact wp_region_any hmix (wpAnyK_any (fun _ _ hq => hq) _ _ _ _ (drawGo_sound hex hcfg hro hsel _ rs r.drew (ClosedL.start _) hd hk))
  · exact hd.elim
end
end Go.Sx
