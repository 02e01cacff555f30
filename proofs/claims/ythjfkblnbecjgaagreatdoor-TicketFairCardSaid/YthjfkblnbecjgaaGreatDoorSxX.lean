/- Loops with an invariant. -/
import Derived.Test.YthjfkblnbecjgaaGreatDoorSxW
set_option linter.unusedVariables false
namespace Go.Sx

/-- What a loop carries: numbers in slots, truth values in slots, numbers in cells, contents of blocks, slices that grow. A block is named by a slot and the cells that lead on. -/
structure LoopAnn where
  f : FuncId
  reg : Nat
  drop : List Nat := []                                -- slots to be forgotten at the loop's head
  ints : List (Nat × Int × Int) := []                  -- slot, least, greatest
  cells : List (Nat × List Nat × Nat × Int × Int) := [] -- slot, path, cell, least, greatest
  lists : List (Nat × List Nat × Option (Int × Int)) := []
  vecs : List (Nat × Option (Int × Int)) := []          -- slot with a slice whose block may be another one in the next round

def firstReg : Code → Option Nat
  | .region id _ _ => some id
  | .seq a b => (match firstReg a with | some i => some i | none => firstReg b)
  | .cond _ a b => (match firstReg a with | some i => some i | none => firstReg b)
  | .block _ b => firstReg b
  | .loop b => firstReg b
  | .scope b => firstReg b
  | _ => none
def dstsOf (ops : Array Oper) : List Nat := ops.toList.filterMap (·.dst)
def assigned : Code → List Nat
  | .region _ ops _ => dstsOf ops
  | .seq a b => assigned a ++ assigned b
  | .cond _ a b => assigned a ++ assigned b
  | .block _ b => assigned b
  | .loop b => assigned b
  | .scope b => assigned b
  | _ => []

def ptrName : SV → Option Nat
  | .ptr n _ => some n
  | .slc n _ _ _ => some n
  | _ => none
def followS (h : H) : Nat → List Nat → Option Nat
  | n, [] => some n
  | n, j :: js => match h.blk n with
    | some (.cells xs _ _) => (match (xs[j]?).bind ptrName with
      | some m => followS h m js
      | none => none)
    | _ => none
def pathName (sl : Slots) (h : H) (s : Nat) (p : List Nat) : Option Nat := (((sl[s]?).join).bind ptrName).bind fun n => followS h n p

/-- The head's form: slots, blocks, and where the carried things stand. -/
structure Head where
  sl : Slots
  hp : List (Nat × Blk)
  xs : List At          -- the carried numbers now
  ys : List Nat         -- the carried lists now
  zs : List Nat         -- the carried blocks now
  rng : List (Nat × Int × Int)
  lrng : List (Nat × Int × Int)
deriving Inhabited

def setBlkL (hp : List (Nat × Blk)) (n : Nat) (b : Blk) : List (Nat × Blk) := hp.map fun e => if e.1 == n then (n, b) else e
def Head.int (hd : Head) (ni s : Nat) (lo hi : Int) : Head :=
  match (hd.sl[s]?).join with
  | some (.i k a) => { hd with sl := hd.sl.set s (some (.i k (.v (ni + hd.xs.length)))), xs := hd.xs ++ [a], rng := (ni + hd.xs.length, lo, hi) :: hd.rng }
  | some (.b a) => { hd with sl := hd.sl.set s (some (.b (.v (ni + hd.xs.length)))), xs := hd.xs ++ [a], rng := (ni + hd.xs.length, lo, hi) :: hd.rng }
  | _ => hd
def Head.cell (hd : Head) (ni n j : Nat) (lo hi : Int) : Head :=
  match assoc hd.hp n with
  | some (.cells xs sz el) => (match xs[j]? with
    | some (.i k a) => { hd with hp := setBlkL hd.hp n (.cells (xs.set j (.i k (.v (ni + hd.xs.length)))) sz el), xs := hd.xs ++ [a], rng := (ni + hd.xs.length, lo, hi) :: hd.rng }
    | some (.b a) => { hd with hp := setBlkL hd.hp n (.cells (xs.set j (.b (.v (ni + hd.xs.length)))) sz el), xs := hd.xs ++ [a], rng := (ni + hd.xs.length, lo, hi) :: hd.rng }
    | _ => hd)
  | _ => hd
def Head.list (hd : Head) (nl n : Nat) (r : Option (Int × Int)) : Head :=
  match assoc hd.hp n with
  | some (.arr ks l len sz el) => { hd with hp := setBlkL hd.hp n (.arr ks (nl + hd.ys.length) len sz el), ys := hd.ys ++ [l], lrng := (match r with | some r => (nl + hd.ys.length, r) :: hd.lrng | none => hd.lrng) }
  | _ => hd
def Head.vec (hd : Head) (ni nl nb s : Nat) (r : Option (Int × Int)) : Head :=
  match (hd.sl[s]?).join with
  | some (.vec n len cap) => (match assoc hd.hp n with
    | some (.arr ks l bl sz el) =>
      let i := ni + hd.xs.length
      let two := sameAt bl len && sameAt sz cap
      let bl' := if two then At.v i else At.v (i + 2)
      let sz' := if two then At.v (i + 1) else At.v (i + 3)
      { hd with
        sl := hd.sl.set s (some (.vec (nb + hd.zs.length) (.v i) (.v (i + 1)))),
        hp := (nb + hd.zs.length, .arr ks (nl + hd.ys.length) bl' sz' el) :: hd.hp.filter (fun e => !(e.1 == n)),
        xs := hd.xs ++ (if two then [len, cap] else [len, cap, bl, sz]), ys := hd.ys ++ [l], zs := hd.zs ++ [n],
        rng := (i, 0, 1000000) :: (i + 1, 0, 9223372036854775807) :: (if two then [] else [(i + 2, 0, 1000000), (i + 3, 0, 9223372036854775807)]) ++ hd.rng, lrng := (match r with | some r => (nl + hd.ys.length, r) :: hd.lrng | none => hd.lrng) }
    | _ => hd)
  | _ => hd
def LoopAnn.head (an : LoopAnn) (body : Code) (sl : Slots) (h : H) : Head :=
  let gone := (an.drop ++ assigned body).filter fun s => !(an.ints.any (·.1 == s) || an.vecs.any (·.1 == s))
  let sl0 := sl.mapIdx fun i x => if gone.contains i then none else x
  let h0 : Head := ⟨sl0, h.hp, [], [], [], [], []⟩
  let h1 := an.ints.foldl (fun hd q => hd.int h.ni q.1 q.2.1 q.2.2) h0
  let h2 := an.cells.foldl (fun hd q => match pathName sl h q.1 q.2.1 with
    | some n => hd.cell h.ni n q.2.2.1 q.2.2.2.1 q.2.2.2.2
    | none => hd) h1
  let h3 := an.lists.foldl (fun hd q => match pathName sl h q.1 q.2.1 with
    | some n => hd.list h.nl n q.2.2
    | none => hd) h2
  an.vecs.foldl (fun hd q => hd.vec h.ni h.nl h.nb q.1 q.2) h3

/-- The state at the head, for a base state. -/
def Head.toH (hd : Head) (h : H) : H := { hp := hd.hp, ni := h.ni + hd.xs.length, nl := h.nl + hd.ys.length, nb := h.nb + hd.zs.length, rng := hd.rng ++ h.rng, defs := h.defs, lrng := hd.lrng ++ h.lrng }
def idSub (h : H) (xs : List At) (ys zs : List Nat) : Sub := ⟨(List.range h.ni).map .v ++ xs, List.range h.nl ++ ys, List.range h.nb ++ zs⟩

/-- Read the carried things off a state, by matching the head's form. -/
def Head.read (hd : Head) (h0 : H) (sl : Slots) (h : H) : Sub :=
  let g0 : Gs := ⟨(List.range h0.ni).map fun i => (i, .v i), (List.range h0.nl).map fun i => (i, i), (List.range h0.nb).map fun i => (i, i)⟩
  let g1 := (hd.sl.zip sl).foldl (fun g p => match p with
    | (some x, some y) => g.sv x y
    | _ => g) g0
  (g1.hp h hd.hp).sub (h0.ni + hd.xs.length) (h0.nl + hd.ys.length) (h0.nb + hd.zs.length)
def slotsFit (θ : Sub) : Slots → Slots → Bool
  | [], [] => true
  | none :: r, _ :: s => slotsFit θ r s
  | some x :: r, some y :: s => svEq (x.inst θ) y && slotsFit θ r s
  | _, _ => false
def Head.fits (hd : Head) (h0 : H) (sl : Slots) (h : H) (θ : Sub) : Bool :=
  slotsFit θ hd.sl sl && (hd.hp.all (fun e => decide (e.1 < h0.nb + hd.zs.length) && (e.2.inB (h0.ni + hd.xs.length) (h0.nl + hd.ys.length) (h0.nb + hd.zs.length) && (match h.blk (θ.bs.getD e.1 0) with | some b => blkEq (e.2.inst θ) b | none => false))) &&
    (nodupB ((hd.hp.filter (·.2.owned)).map fun e => θ.bs.getD e.1 0) && (θ.is.all (At.lt h.ni) && (θ.ls.all (fun l => decide (l < h.nl)) && (θ.bs.all (fun l => decide (l < h.nb)) &&
    (decide (θ.is.length = h0.ni + hd.xs.length) && (decide (θ.ls.length = h0.nl + hd.ys.length) && (decide (θ.bs.length = h0.nb + hd.zs.length) &&
    (decide (θ.is.take h0.ni = (List.range h0.ni).map .v) && (decide (θ.ls.take h0.nl = List.range h0.nl) && (decide (θ.bs.take h0.nb = List.range h0.nb) &&
    (hd.rng.all (fun r => decide (r.1 < h0.ni + hd.xs.length)) && (hd.lrng.all (fun r => decide (r.1 < h0.nl + hd.ys.length)) &&
    (hd.lrng.all (fun r => inside (h.lrange (θ.ls.getD r.1 0)) (some r.2)) && hd.sl.all (fun x => match x with | some x => SV.ok (h0.ni + hd.xs.length) (h0.nb + hd.zs.length) x | none => true)))))))))))))))

/-- A loop with an invariant. -/
def loopAnn (an : LoopAnn) (ex : CodeF) (fid : FuncId) (b : Code) (sl : Slots) (h : H) (k : Ex → Slots → H → Tree) : Tree :=
  let hd := an.head b sl h
  let θ := hd.read h sl h
  if hd.fits h sl h θ then
    rangeNeeds θ hd.rng h fun _ _ =>
    .loop (θ.is.drop h.ni) (θ.ls.drop h.nl) (ex fid b hd.sl (hd.toH h) fun e sl' h' => match e with
      | .norm =>
        let θ' := hd.read h sl' h'
        if hd.fits h sl' h' θ' then rangeNeeds θ' hd.rng h' fun _ _ => .again (θ'.is.drop h.ni) (θ'.ls.drop h.nl) else .fail 201
      | e => .exit (k e sl' h'))
  else .fail 200

theorem slotsFit_ok {θ : Sub} : ∀ {r s : Slots}, slotsFit θ r s = true → r.length = s.length ∧ ∀ (i : Nat) (x : SV), r[i]? = some (some x) → ∃ y, s[i]? = some (some y) ∧ x.inst θ = y
  | [], [], _ => ⟨rfl, fun i x h => by simp at h⟩
  | [], _ :: _, h => by cases h
  | none :: r, [], h => by cases h
  | none :: r, y :: s, h => by
    have ih := slotsFit_ok (r := r) (s := s) (by simpa [slotsFit] using h)
    refine ⟨by simp [ih.1], fun i x hx => ?_⟩
    cases i with
    | zero => simp at hx
    | succ i => simpa using ih.2 i x (by simpa using hx)
  | some x :: r, [], h => by cases h
  | some x :: r, none :: s, h => by cases h
  | some x :: r, some y :: s, h => by
    simp only [slotsFit, Bool.and_eq_true] at h
    have ih := slotsFit_ok (r := r) (s := s) h.2
    refine ⟨by simp [ih.1], fun i z hz => ?_⟩
    cases i with
    | zero => simp only [List.getElem?_cons_zero, Option.some.injEq] at hz; subst hz; exact ⟨y, by simp, svEq_eq h.1⟩
    | succ i => simpa using ih.2 i z (by simpa using hz)

theorem wp_loop_idx {P : Program} {c : Code} {Q : Exit → Act → World → Prop} {a : Act} {w : World} {I : Nat → Act → World → Prop} {n : Nat} (h₀ : I n a w)
    (round : ∀ n a w, I n a w → c.wp P (Exit.then (fun a' w' => ∃ m, m < n ∧ I m a' w') Q) a w) : (Code.loop c).wp P Q a w := by
  intro b k cs
  have key : ∀ n a w, I n a w → ∃ e a' w', Q e a' w' ∧ Arrives P (lone (b.at a (.code c :: .inLoop c :: k)) cs w) b k cs e a' w' := by
    intro n
    induction n using Nat.strongRecOn with
    | _ n ih =>
      intro a w hI
      obtain ⟨e, a₁, w₁, hq, harr⟩ := round n a w hI b (.inLoop c :: k) cs
      cases e with
      | normal =>
        obtain ⟨m, hm, hI₁⟩ := hq
        obtain ⟨e₂, a₂, w₂, hq₂, harr₂⟩ := ih m hm a₁ w₁ hI₁
        exact ⟨e₂, a₂, w₂, hq₂, .of_steps (Steps.trans harr (.one step_inLoop)) harr₂⟩
      | exit id => exact ⟨_, a₁, w₁, hq, .pass (x := .inLoop c) rfl (fun _ _ => .inl (by simp)) harr⟩
      | goto l => exact ⟨_, a₁, w₁, hq, .pass (x := .inLoop c) rfl (fun _ _ => .inl (by simp)) harr⟩
      | ret => exact ⟨_, a₁, w₁, hq, .pass (x := .inLoop c) rfl (fun _ _ => .inl (by simp)) harr⟩
      | panic ch => exact ⟨_, a₁, w₁, hq, .pass (x := .inLoop c) rfl (fun _ _ => .inl (by simp)) harr⟩
      | outgrown => exact ⟨_, a₁, w₁, hq, .pass (x := .inLoop c) rfl (fun _ _ => .inl (by simp)) harr⟩
  obtain ⟨e, a', w', hq, harr⟩ := key n a w h₀
  exact ⟨e, a', w', hq, .of_steps (.one step_loop) harr⟩

section
variable {Φ : Phi} {C : Ctx} {P : Program}

/-- A state that fits the head's form stands at the head, in the base's environment and what is carried. -/
theorem Head.reabs {hd : Head} {h0 : H} {ρ0 ρ : Env} {w0 : World} (r0 : RepH C ρ0 h0 w0) (l : ρ0.le ρ) {sl : Slots} {h : H} {a : Act} {w : World} {θ : Sub} (rs : RepS ρ sl a) (r : RepH C ρ h w)
    (hfit : hd.fits h0 sl h θ = true) (hrg : ∀ q ∈ hd.rng, q.2.1 ≤ ((At.v q.1).inst θ).den ρ.is ∧ ((At.v q.1).inst θ).den ρ.is ≤ q.2.2) :
    let τ : Env := ⟨(θ.is.drop h0.ni).map (·.den ρ.is), (θ.ls.drop h0.nl).map (fun l => ρ.ls.getD l []), (θ.bs.drop h0.nb).map ρ.b⟩
    RepS (ρ0.app τ) hd.sl a ∧ RepH C (ρ0.app τ) (hd.toH h0) w := by
  intro τ
  simp only [Head.fits, Bool.and_eq_true, decide_eq_true_eq] at hfit
  obtain ⟨hsl, hblks, hnod, hθi, hθl, hθb, hli, hll, hlb, hti, htl, htb, hrb, hlrb, hlr, hslok⟩ := hfit
  have f := r.fact
  have henv : θ.env ρ = ρ0.app τ := by
    obtain ⟨σ, rfl⟩ := l
    unfold Sub.env Env.app
    simp only [Env.mk.injEq]
    refine ⟨?_, ?_, ?_⟩
    · conv => lhs; rw [← List.take_append_drop h0.ni θ.is, List.map_append, hti]
      rw [map_v_den h0.ni ρ0.is σ.is r0.ni]; rfl
    · conv => lhs; rw [← List.take_append_drop h0.nl θ.ls, List.map_append, htl]
      rw [show List.range h0.nl = List.range ρ0.ls.length by rw [r0.nl]]
      congr 1
      exact map_getD_range ρ0.ls σ.ls []
    · conv => lhs; rw [← List.take_append_drop h0.nb θ.bs, List.map_append, htb]
      rw [show List.range h0.nb = List.range ρ0.bs.length by rw [r0.nb]]
      congr 1
      exact map_getD_range ρ0.bs σ.bs (0, 0)
  have L1 : (θ.env ρ).is.length = h0.ni + hd.xs.length := by simp [Sub.env, hli]
  have L2 : (θ.env ρ).ls.length = h0.nl + hd.ys.length := by simp [Sub.env, hll]
  have L3 : (θ.env ρ).bs.length = h0.nb + hd.zs.length := by simp [Sub.env, hlb]
  rw [← henv]
  have hs := slotsFit_ok hsl
  constructor
  · refine ⟨by rw [rs.size, hs.1], rs.defers, fun i x hx => ?_⟩
    obtain ⟨y, hy, he⟩ := hs.2 i x hx
    obtain ⟨v, hv, hi⟩ := rs.slots i y hy
    have hxo : SV.ok θ.is.length θ.bs.length x = true := by
      have := List.all_eq_true.1 hslok (some x) (List.mem_of_getElem? hx)
      rw [hli, hlb]; exact this
    refine ⟨v, hv, by rw [L1, L3, ← hli, ← hlb]; exact hxo, ?_⟩
    rw [inst_den x hxo, he]; exact hi.2
  · have hall : ∀ e ∈ hd.hp, e.1 < θ.bs.length ∧ e.2.inB (h0.ni + hd.xs.length) (h0.nl + hd.ys.length) (h0.nb + hd.zs.length) = true ∧ h.blk (θ.bs.getD e.1 0) = some (e.2.inst θ) := fun e he => by
      have := List.all_eq_true.1 hblks e he
      simp only [Bool.and_eq_true, decide_eq_true_eq] at this
      refine ⟨by rw [hlb]; exact this.1, this.2.1, ?_⟩
      have h3 := this.2.2
      cases eb : h.blk (θ.bs.getD e.1 0) with
      | none => rw [eb] at h3; cases h3
      | some b => rw [eb] at h3; rw [blkEq_eq h3]
    have hall' : ∀ e ∈ hd.hp, e.1 < θ.bs.length ∧ e.2.inB θ.is.length θ.ls.length θ.bs.length = true := fun e he => by
      have := hall e he
      rw [hli, hll, hlb]; rw [hlb] at this; exact ⟨this.1, this.2.1⟩
    refine ⟨L1, L2, L3, Facts.of (fun e he => ?_) ?_ (fun q hq σ => ?_) (fun d hd' σ => ?_) (fun q hq σ x hx => ?_), r.frame⟩
    · have hb := f.heap _ (blk_mem (hall e he).2.2)
      refine BlkOk.inst (C := C) (hall' e he).1 (hall' e he).2 hb hb.mine (fun ho => ?_)
      have hh := hb.holds
      obtain ⟨n, b⟩ := e
      cases b <;> simp only [Blk.owned] at ho <;> try (cases ho; done)
      simp only [Blk.inst, Blk.holds] at hh
      exact ⟨hh.1, hh.2.1, fun _ _ _ hv => hv⟩
    · show (ownPhys (θ.env ρ) hd.hp).Nodup
      rw [← ownPhys_inst hall']
      refine phys_sub f.nodup (fun e he => ?_) ?_
      · obtain ⟨e0, he0, rfl⟩ := List.mem_map.1 he
        exact blk_mem (hall e0 he0).2.2
      · have := nodupB_ok hnod
        rw [List.filter_map, List.map_map]
        have e2 : (fun x : Nat × Blk => x.2.owned) ∘ (fun e : Nat × Blk => (θ.bs.getD e.1 0, e.2.inst θ)) = fun e => e.2.owned := by
          funext e; exact owned_inst θ e.2
        rw [e2]
        exact this
    · rcases List.mem_append.1 hq with hq | hq
      · have hw := of_decide_eq_true (List.all_eq_true.1 hrb q hq)
        rw [show ((θ.env ρ).app σ).is.getD q.1 0 = (θ.env ρ).is.getD q.1 0 from getD_app (by rw [L1]; exact hw)]
        have e2 : (θ.env ρ).is.getD q.1 0 = ((At.v q.1).inst θ).den ρ.is := inst_at (a := .v q.1) (by simp [At.lt, hli, hw])
        rw [e2]; exact hrg q hq
      · have := (r0.facts (τ.app σ)).rng q hq
        rw [← Env.app_assoc, ← henv] at this; exact this
    · have := (r0.facts (τ.app σ)).defs d hd'
      rw [← Env.app_assoc, ← henv] at this; exact this
    · rcases List.mem_append.1 hq with hq | hq
      · have hw := of_decide_eq_true (List.all_eq_true.1 hlrb q hq)
        rw [show ((θ.env ρ).app σ).ls.getD q.1 [] = (θ.env ρ).ls.getD q.1 [] from getD_app (by rw [L2]; exact hw)] at hx
        rw [inst_l (by rw [hll]; exact hw)] at hx
        exact inside_ok (List.all_eq_true.1 hlr q hq) (lrange_ok f _ x hx)
      · have := (r0.facts (τ.app σ)).lrng q hq
        rw [← Env.app_assoc, ← henv] at this
        exact this x hx

theorem fits_lt {hd : Head} {h0 h : H} {sl : Slots} {θ : Sub} {ρ : Env} (hfit : hd.fits h0 sl h θ = true) (hn : ρ.is.length = h.ni) : θ.is.all (At.lt ρ.is.length) = true := by
  simp only [Head.fits, Bool.and_eq_true, decide_eq_true_eq] at hfit
  rw [hn]; exact hfit.2.2.2.1

theorem loopAnn_sound {an : LoopAnn} {ex : CodeF} (hex : CodeOk P C ex) {fid : FuncId} {b : Code} {sl : Slots} {h : H} {k : Ex → Slots → H → Tree} {Q : Exit → Act → World → Prop} {ρ : Env} {a : Act} {w : World}
    (rs : RepS ρ sl a) (r : RepH C ρ h w) (hdn : (loopAnn an ex fid b sl h k).den Φ ρ.is ρ.ls)
    (hk : ∀ e sl' h' ρ' a' w', ρ.le ρ' → RepS ρ' sl' a' → RepH C ρ' h' w' → (k e sl' h').den Φ ρ'.is ρ'.ls → Q e.to a' w') : (Code.loop b).wp P Q a w := by
  unfold loopAnn at hdn
  simp only at hdn
  split at hdn
  case isFalse => exact hdn.elim
  rename_i hfit
  generalize hH : an.head b sl h = hd at hdn hfit
  generalize hθ : hd.read h sl h = θ at hdn hfit
  obtain ⟨_, ρ1, h1, w1, l1, r1, d1, e1, hp1, hlr1, er1, hrg⟩ := rangeNeeds_spec (Φ := Φ) (C := C) (w := w) hd.rng (fits_lt hfit r.ni) r _ hdn
  subst e1
  subst er1
  simp only [Tree.den] at d1
  obtain ⟨I, μ, hI0, hround⟩ := d1
  have hli : (θ.is.drop h.ni).length = hd.xs.length := by simp only [Head.fits, Bool.and_eq_true, decide_eq_true_eq] at hfit; simp [hfit.2.2.2.2.2.2.1]
  have hll : (θ.ls.drop h.nl).length = hd.ys.length := by simp only [Head.fits, Bool.and_eq_true, decide_eq_true_eq] at hfit; simp [hfit.2.2.2.2.2.2.2.1]
  have start := Head.reabs r (Env.le_refl ρ1) rs r hfit hrg
  refine wp_loop_idx (I := fun n a w => ∃ τ : Env, τ.is.length = hd.xs.length ∧ τ.ls.length = hd.ys.length ∧ I τ.is τ.ls ∧ μ τ.is τ.ls = n ∧ RepS (ρ1.app τ) hd.sl a ∧ RepH C (ρ1.app τ) (hd.toH h) w)
    (n := μ ((θ.is.drop h.ni).map (·.den ρ1.is)) ((θ.ls.drop h.nl).map (fun l => ρ1.ls.getD l []))) ⟨_, by rw [List.length_map]; exact hli, by rw [List.length_map]; exact hll, hI0, rfl, start.1, start.2⟩ ?_
  rintro n a w ⟨τ, t1, t2, hI, hμ, rs', r'⟩
  have hb := hround τ.is τ.ls (by rw [t1, hli]) (by rw [t2, hll]) hI
  refine hex (Φ.push fun xs' ys' => I xs' ys' ∧ μ xs' ys' < μ τ.is τ.ls) fid b hd.sl (hd.toH h) _ _ (ρ1.app τ) a w rs' r' hb ?_
  intro e sl' h' ρ' a' w' l' rs2 r2 d2
  have l0' : ρ1.le ρ' := Env.le_trans (Env.le_app ρ1 τ) l'
  cases e with
  | norm =>
    simp only at d2
    split at d2
    case isFalse => exact d2.elim
    rename_i hfit'
    generalize hθ' : hd.read h sl' h' = θ' at d2 hfit'
    obtain ⟨_, ρ3, h3, w3, l3, r3, d3, e3, hp3, hlr3, er3, hrg'⟩ := rangeNeeds_spec (Φ := Φ.push fun xs' ys' => I xs' ys' ∧ μ xs' ys' < μ τ.is τ.ls) (C := C) (w := w') hd.rng (fits_lt hfit' r2.ni) r2 _ d2
    subst e3
    subst er3
    simp only [Tree.den, Phi.push, Phi.top] at d3
    have again := Head.reabs r l0' rs2 r2 hfit' hrg'
    have hli' : (θ'.is.drop h.ni).length = hd.xs.length := by simp only [Head.fits, Bool.and_eq_true, decide_eq_true_eq] at hfit'; simp [hfit'.2.2.2.2.2.2.1]
    have hll' : (θ'.ls.drop h.nl).length = hd.ys.length := by simp only [Head.fits, Bool.and_eq_true, decide_eq_true_eq] at hfit'; simp [hfit'.2.2.2.2.2.2.2.1]
    exact ⟨_, by rw [← hμ]; exact d3.2, _, by rw [List.length_map]; exact hli', by rw [List.length_map]; exact hll', d3.1, rfl, again.1, again.2⟩
  | exit id => exact hk (.exit id) _ _ _ _ _ l0' rs2 r2 d2
  | ret => exact hk .ret _ _ _ _ _ l0' rs2 r2 d2
end
end Go.Sx
