/- The meaning of a tree, with every number and list by itself. -/
import Derived.Test.YthjfkblnbecjgaaGreatDoorSxVc
set_option linter.unusedVariables false
namespace Go.Sx
/-- For all lists of n numbers. -/
def allV {α : Type} : Nat → (List α → Prop) → Prop
  | 0, p => p []
  | n + 1, p => ∀ x, allV n fun xs => p (x :: xs)
theorem allV_iff {α : Type} : ∀ (n : Nat) (p : List α → Prop), allV n p ↔ ∀ xs : List α, xs.length = n → p xs
  | 0, p => by
    constructor
    · intro h xs hx
      obtain rfl := List.length_eq_zero_iff.1 hx
      exact h
    · intro h
      exact h [] rfl
  | n + 1, p => by
    constructor
    · intro h xs hx
      cases xs with
      | nil => cases hx
      | cons x xs => exact (allV_iff n _).1 (h x) xs (by simpa using hx)
    · intro h x
      exact (allV_iff n _).2 fun xs hx => h _ (by simpa using hx)
/-- A number, by the list of all numbers from the last one on. -/
def At.dr (n : Nat) (r : List Int) : At → Int
  | .c k => k
  | .v i => bif Nat.blt i n then r.getD (n - 1 - i) 0 else 0
def listR (m : Nat) (s : List (List Int)) (l : Nat) : List Int := bif Nat.blt l m then s.getD (m - 1 - l) [] else []
theorem getD_rev {α : Type} (l : List α) (i : Nat) (d : α) : (bif Nat.blt i l.length then l.reverse.getD (l.length - 1 - i) d else d) = l.getD i d := by
  by_cases h : i < l.length
  · have hb : Nat.blt i l.length = true := by simpa using h
    rw [hb]
    simp only [cond_true, List.getD_eq_getElem?_getD]
    rw [List.getElem?_reverse (by omega)]
    have : l.length - 1 - (l.length - 1 - i) = i := by omega
    rw [this]
  · have hb : Nat.blt i l.length = false := by
      cases e : Nat.blt i l.length with
      | false => rfl
      | true => exact absurd (by simpa using e) h
    rw [hb]
    simp only [cond_false, List.getD_eq_getElem?_getD]
    rw [List.getElem?_eq_none (by omega)]
    rfl
theorem At.dr_eq (is : List Int) (a : At) : a.dr is.length is.reverse = a.den is := by
  cases a with
  | c k => rfl
  | v i => exact getD_rev is i 0
theorem listR_eq (ls : List (List Int)) (l : Nat) : listR ls.length ls.reverse l = ls.getD l [] := getD_rev ls l []
def cmpP (op : BinOp) (x y : Int) : Prop :=
  match op with
  | .eql => x = y
  | .neq => x ≠ y
  | .lss => x < y
  | .leq => x ≤ y
  | .gtr => y < x
  | .geq => y ≤ x
  | _ => False
def cmpN (op : BinOp) (x y : Int) : Prop :=
  match op with
  | .eql => x ≠ y
  | .neq => x = y
  | .lss => y ≤ x
  | .leq => y < x
  | .gtr => x ≤ y
  | .geq => x < y
  | _ => True
theorem cmpP_ok (op : BinOp) (x y : Int) : cmpP op x y ↔ cmpB op x y = true := by
  cases op <;> simp [cmpP, cmpB]
theorem cmpN_ok (op : BinOp) (x y : Int) : cmpN op x y ↔ cmpB op x y = false := by
  cases op <;> simp [cmpN, cmpB]
def IOp.val (f : At → Int) (g : Nat → List Int) : IOp → Int
  | .add a b => f a + f b
  | .sub a b => f a - f b
  | .mul a b => f a * f b
  | .wr k a => k.wrap (f a)
  | .quo k a b => k.wrap ((f a).tdiv (f b))
  | .rem a b => (f a).tmod (f b)
  | .bit op k a b => bitDen op k (f a) (f b)
  | .shl k a b => k.wrap (f a * 2 ^ (min (f b).toNat k.bits))
  | .shr k a b => (f a).fdiv (2 ^ (min (f b).toNat k.bits))
  | .get l a => (g l).getD (f a).toNat 0
  | .len l => (g l).length
  | .cmp op a b => b2i (cmpB op (f a) (f b))
  | .not a => b2i (f a == 0)
  | .mn a b => if f b < f a then f b else f a
  | .mx a b => if f b > f a then f b else f a
  | .pick c a b => if f c = 0 then f b else f a
theorem IOp.val_eq (o : IOp) (is : List Int) (ls : List (List Int)) : o.val (At.den is) (fun l => ls.getD l []) = o.den is ls := by cases o <;> rfl
def LOp.val (f : At → Int) (g : Nat → List Int) : LOp → List Int
  | .set l i v => (g l).set (f i).toNat (f v)
  | .lit xs => xs.map f
  | .rep n v => List.replicate (f n).toNat (f v)
  | .push l v => g l ++ [f v]
  | .take l n => (g l).take (f n).toNat
  | .drop l n => (g l).drop (f n).toNat
  | .app l m => g l ++ g m
  | .put l n m => putL (g l) (f n).toNat (g m)
theorem LOp.val_eq (o : LOp) (is : List Int) (ls : List (List Int)) : o.val (At.den is) (fun l => ls.getD l []) = o.den is ls := by cases o <;> rfl
def Tree.dn (Φ : Phi) : Tree → Nat → List Int → Nat → List (List Int) → Prop
  | .fail _, _, _, _, _ => False
  | .done xs ls, n, r, m, s => Φ.post (xs.map (At.dr n r)) (ls.map (listR m s))
  | .letI (.cmp op a b) (.ite (.v i) t e), n, r, m, s =>
    bif Nat.beq i n then (cmpP op (a.dr n r) (b.dr n r) → t.dn Φ (n + 1) (1 :: r) m s) ∧ (cmpN op (a.dr n r) (b.dr n r) → e.dn Φ (n + 1) (0 :: r) m s)
    else ∀ x, x = b2i (cmpB op (a.dr n r) (b.dr n r)) → ((At.v i).dr (n + 1) (x :: r) ≠ 0 → t.dn Φ (n + 1) (x :: r) m s) ∧ ((At.v i).dr (n + 1) (x :: r) = 0 → e.dn Φ (n + 1) (x :: r) m s)
  | .letI o t, n, r, m, s => ∀ x, x = o.val (At.dr n r) (listR m s) → t.dn Φ (n + 1) (x :: r) m s
  | .letL o t, n, r, m, s => ∀ x, x = o.val (At.dr n r) (listR m s) → t.dn Φ n r (m + 1) (x :: s)
  | .ite a t e, n, r, m, s => (a.dr n r ≠ 0 → t.dn Φ n r m s) ∧ (a.dr n r = 0 → e.dn Φ n r m s)
  | .need op a b t, n, r, m, s => cmpP op (a.dr n r) (b.dr n r) ∧ t.dn Φ n r m s
  | .call _ q ins lins ni nl t, n, r, m, s =>
    q.pre (ins.map (At.dr n r)) (lins.map (listR m s)) ∧
    allV ni fun xs => allV nl fun ys => q.post (ins.map (At.dr n r)) (lins.map (listR m s)) xs ys → t.dn Φ (n + ni) (xs.reverseAux r) (m + nl) (ys.reverseAux s)
  | .loop ents lents body, n, r, m, s =>
    ∃ (I : List Int → List (List Int) → Prop) (μ : List Int → List (List Int) → Nat),
      I (ents.map (At.dr n r)) (lents.map (listR m s)) ∧
      allV ents.length fun xs => allV lents.length fun ys => I xs ys →
        body.dn (Φ.push fun xs' ys' => I xs' ys' ∧ μ xs' ys' < μ xs ys) (n + ents.length) (xs.reverseAux r) (m + lents.length) (ys.reverseAux s)
  | .again xs ls, n, r, m, s => Φ.top (xs.map (At.dr n r)) (ls.map (listR m s))
  | .exit t, n, r, m, s => t.dn Φ.pop n r m s
  | .both a b, n, r, m, s => a.dn Φ n r m s ∧ b.dn Φ n r m s
  | .any lo hi t, n, r, m, s => ∀ x, lo.dr n r ≤ x → x ≤ hi.dr n r → t.dn Φ (n + 1) (x :: r) m s
theorem map_dr (is : List Int) (xs : List At) : xs.map (At.dr is.length is.reverse) = xs.map (·.den is) := List.map_congr_left fun a _ => At.dr_eq is a
theorem map_listR (ls : List (List Int)) (xs : List Nat) : xs.map (listR ls.length ls.reverse) = xs.map fun l => ls.getD l [] := List.map_congr_left fun a _ => listR_eq ls a
theorem dr_fun (is : List Int) : At.dr is.length is.reverse = At.den is := funext (At.dr_eq is)
theorem listR_fun (ls : List (List Int)) : listR ls.length ls.reverse = fun l => ls.getD l [] := funext (listR_eq ls)
theorem b2i_ne (b : Bool) : (b2i b ≠ 0) = (b = true) := by cases b <;> simp [b2i]
theorem b2i_eq (b : Bool) : (b2i b = 0) = (b = false) := by cases b <;> simp [b2i]
theorem dn_den (Φ : Phi) (t : Tree) (is : List Int) (lls : List (List Int)) (h : t.dn Φ is.length is.reverse lls.length lls.reverse) : t.den Φ is lls := by
  have snoc : ∀ {α : Type} (l : List α) (x : α), (l ++ [x]).length = l.length + 1 ∧ (l ++ [x]).reverse = x :: l.reverse := fun l x => by simp
  have app : ∀ {α : Type} (l xs : List α), (l ++ xs).length = l.length + xs.length ∧ (l ++ xs).reverse = xs.reverseAux l.reverse := fun l xs => by simp [List.reverseAux_eq]
  have key : ∀ (N : Nat) (t : Tree), SizeOf.sizeOf t < N → ∀ (Φ : Phi) (is : List Int) (lls : List (List Int)), t.dn Φ is.length is.reverse lls.length lls.reverse → t.den Φ is lls := by
    intro N
    induction N with
    | zero => intro t h; omega
    | succ N ih =>
      intro t hN Φ is lls h
      cases t with
      | fail n => simp only [Tree.dn] at h
      | done xs ls => simp only [Tree.dn, map_dr, map_listR] at h; simpa only [Tree.den] using h
      | «letI» o t =>
        simp only [Tree.letI.sizeOf_spec] at hN
        have gen : (∀ x, x = o.val (At.dr is.length is.reverse) (listR lls.length lls.reverse) → t.dn Φ (is.length + 1) (x :: is.reverse) lls.length lls.reverse) → (Tree.letI o t).den Φ is lls := by
          intro h
          simp only [Tree.den]
          intro x e
          refine ih t (by omega) Φ _ _ ?_
          rw [(snoc is x).1, (snoc is x).2]
          refine h x ?_
          rw [dr_fun, listR_fun, IOp.val_eq]
          exact e
        by_cases hc : ∃ op a b i t1 e1, o = .cmp op a b ∧ t = .ite (.v i) t1 e1
        · obtain ⟨op, a, b, i, t1, e1, rfl, rfl⟩ := hc
          simp only [Tree.dn] at h
          simp only [Tree.ite.sizeOf_spec] at hN
          simp only [Tree.den]
          intro x e
          have e' : x = b2i (cmpB op (a.den is) (b.den is)) := e
          cases hb : Nat.beq i is.length with
          | true =>
            rw [hb] at h
            simp only [cond_true, At.dr_eq] at h
            have hi : i = is.length := by simpa using hb
            have hx : At.den (is ++ [x]) (.v i) = x := by simp [At.den, hi]
            rw [hx]
            constructor
            · intro hne
              rw [e', b2i_ne] at hne
              have := h.1 ((cmpP_ok _ _ _).2 hne)
              have hx1 : x = 1 := by rw [e', hne]; rfl
              rw [hx1]
              refine ih t1 (by omega) Φ _ _ ?_
              rw [(snoc is 1).1, (snoc is 1).2]
              exact this
            · intro hne
              rw [e', b2i_eq] at hne
              have := h.2 ((cmpN_ok _ _ _).2 hne)
              have hx1 : x = 0 := by rw [e', hne]; rfl
              rw [hx1]
              refine ih e1 (by omega) Φ _ _ ?_
              rw [(snoc is 0).1, (snoc is 0).2]
              exact this
          | false =>
            rw [hb] at h
            simp only [cond_false, At.dr_eq] at h
            have h' := h x e'
            rw [← (snoc is x).1, ← (snoc is x).2, At.dr_eq] at h'
            exact ⟨fun c => ih t1 (by omega) Φ _ _ (h'.1 c), fun c => ih e1 (by omega) Φ _ _ (h'.2 c)⟩
        · refine gen ?_
          rw [Tree.dn] at h
          · exact h
          · intro op a b i t1 e1 h1 h2
            exact hc ⟨op, a, b, i, t1, e1, h1, h2⟩
      | letL o t =>
        simp only [Tree.letL.sizeOf_spec] at hN
        simp only [Tree.dn] at h
        simp only [Tree.den]
        intro x e
        refine ih t (by omega) Φ _ _ ?_
        rw [(snoc lls x).1, (snoc lls x).2]
        refine h x ?_
        rw [dr_fun, listR_fun, LOp.val_eq]
        exact e
      | ite a t e =>
        simp only [Tree.ite.sizeOf_spec] at hN
        simp only [Tree.dn, At.dr_eq] at h
        simp only [Tree.den]
        exact ⟨fun c => ih t (by omega) Φ _ _ (h.1 c), fun c => ih e (by omega) Φ _ _ (h.2 c)⟩
      | need op a b t =>
        simp only [Tree.need.sizeOf_spec] at hN
        simp only [Tree.dn, At.dr_eq] at h
        simp only [Tree.den]
        exact ⟨(cmpP_ok _ _ _).1 h.1, ih t (by omega) Φ _ _ h.2⟩
      | call f q ins lins ni nl t =>
        simp only [Tree.call.sizeOf_spec] at hN
        simp only [Tree.dn, map_dr, map_listR] at h
        simp only [Tree.den]
        refine ⟨h.1, fun xs ys h1 h2 hp => ?_⟩
        have := (allV_iff nl _).1 ((allV_iff ni _).1 h.2 xs h1) ys h2 hp
        refine ih t (by omega) Φ _ _ ?_
        rw [(app is xs).1, (app is xs).2, (app lls ys).1, (app lls ys).2, h1, h2]
        exact this
      | loop ents lents body =>
        simp only [Tree.loop.sizeOf_spec] at hN
        simp only [Tree.dn, map_dr, map_listR] at h
        simp only [Tree.den]
        obtain ⟨I, μ, h1, h2⟩ := h
        refine ⟨I, μ, h1, fun xs ys e1 e2 hI => ?_⟩
        have := (allV_iff _ _).1 ((allV_iff _ _).1 h2 xs e1) ys e2 hI
        refine ih body (by omega) _ _ _ ?_
        rw [(app is xs).1, (app is xs).2, (app lls ys).1, (app lls ys).2, e1, e2]
        exact this
      | again xs ls => simp only [Tree.dn, map_dr, map_listR] at h; simpa only [Tree.den] using h
      | exit t =>
        simp only [Tree.exit.sizeOf_spec] at hN
        simp only [Tree.dn] at h
        simp only [Tree.den]
        exact ih t (by omega) _ _ _ h
      | both a b =>
        simp only [Tree.both.sizeOf_spec] at hN
        simp only [Tree.dn] at h
        simp only [Tree.den]
        exact ⟨ih a (by omega) _ _ _ h.1, ih b (by omega) _ _ _ h.2⟩
      | any lo hi t =>
        simp only [Tree.any.sizeOf_spec] at hN
        simp only [Tree.dn, At.dr_eq] at h
        simp only [Tree.den]
        intro x h1 h2
        refine ih t (by omega) Φ _ _ ?_
        rw [(snoc is x).1, (snoc is x).2]
        exact h x h1 h2
  exact key _ t (Nat.lt_succ_self _) Φ is lls h
/-- A contract, by the tree's meaning. -/
theorem FSpec.holdsN {P : Program} {cfg : Cfg} (anns : List LoopAnn) (rounds fuel : Nat) {s : FSpec} (hcfg : cfg.Ok P) (hmix : P.follows .mixedOrders = true) {t : Tree} (ht : s.exe P cfg anns rounds fuel = t)
    (hT : ∀ (is : List Int) (ls : List (List Int)), is.length = s.ni → ls.length = s.nl → s.rel.pre is ls → (∀ r ∈ s.irng, r.2.1 ≤ is.getD r.1 0 ∧ is.getD r.1 0 ≤ r.2.2) → (∀ r ∈ s.ilrng, ∀ x ∈ ls.getD r.1 [], r.2.1 ≤ x ∧ x ≤ r.2.2) →
      t.dn ⟨s.rel.post is ls, []⟩ is.length is.reverse ls.length ls.reverse) : s.Holds P cfg.ro :=
  FSpec.holds anns rounds fuel hcfg hmix fun is ls h1 h2 h3 h4 h5 => by rw [ht]; exact dn_den _ _ _ _ (hT is ls h1 h2 h3 h4 h5)
end Go.Sx
namespace Go.Sx
/-- The ranges, one by one. -/
def rngAll (is : List Int) : List (Nat × Int × Int) → Prop
  | [] => True
  | r :: l => (r.2.1 ≤ is.getD r.1 0 ∧ is.getD r.1 0 ≤ r.2.2) ∧ rngAll is l
def lrngAll (ls : List (List Int)) : List (Nat × Int × Int) → Prop
  | [] => True
  | r :: l => (∀ x ∈ ls.getD r.1 [], r.2.1 ≤ x ∧ x ≤ r.2.2) ∧ lrngAll ls l
theorem rngAll_of (is : List Int) : ∀ (l : List (Nat × Int × Int)), (∀ r ∈ l, r.2.1 ≤ is.getD r.1 0 ∧ is.getD r.1 0 ≤ r.2.2) → rngAll is l
  | [], _ => trivial
  | r :: l, h => ⟨h r (List.mem_cons_self ..), rngAll_of is l fun q hq => h q (List.mem_cons_of_mem _ hq)⟩
theorem lrngAll_of (ls : List (List Int)) : ∀ (l : List (Nat × Int × Int)), (∀ r ∈ l, ∀ x ∈ ls.getD r.1 [], r.2.1 ≤ x ∧ x ≤ r.2.2) → lrngAll ls l
  | [], _ => trivial
  | r :: l, h => ⟨h r (List.mem_cons_self ..), lrngAll_of ls l fun q hq => h q (List.mem_cons_of_mem _ hq)⟩
/-- A contract, by the tree's meaning: for all numbers and lists one by one. -/
theorem FSpec.holdsV {P : Program} {cfg : Cfg} (anns : List LoopAnn) (rounds fuel : Nat) {s : FSpec} (hcfg : cfg.Ok P) (hmix : P.follows .mixedOrders = true) {t : Tree} (ht : s.exe P cfg anns rounds fuel = t)
    (hT : allV s.ni fun is => allV s.nl fun ls => s.rel.pre is ls → rngAll is s.irng → lrngAll ls s.ilrng → t.dn ⟨s.rel.post is ls, []⟩ s.ni is.reverse s.nl ls.reverse) : s.Holds P cfg.ro :=
  FSpec.holdsN anns rounds fuel hcfg hmix ht fun is ls h1 h2 h3 h4 h5 => by
    have := (allV_iff _ _).1 ((allV_iff _ _).1 hT is h1) ls h2 h3 (rngAll_of _ _ h4) (lrngAll_of _ _ h5)
    rw [h1, h2]
    exact this
end Go.Sx
namespace Go.Sx
theorem wrapU (n : Int) : IntKind.wrap .u64 n = n % 18446744073709551616 := by
  simp [IntKind.wrap, IntKind.bits, IntKind.signed]
theorem wrapI (n : Int) : IntKind.wrap .i64 n = (n + 9223372036854775808) % 18446744073709551616 - 9223372036854775808 := by
  simp only [IntKind.wrap, IntKind.bits, IntKind.signed, Bool.true_and]
  split <;> rename_i h <;> simp at h <;> omega
end Go.Sx
namespace Go.Sx
/-- The rest made positive, as programs write it. -/
theorem modN (a n : Int) (hn : 0 < n) : 0 ≤ (a.tmod n + n).tmod n ∧ (a.tmod n + n).tmod n < n := by
  have h := tmod_bd a hn
  exact ⟨Int.tmod_nonneg _ (by omega), Int.tmod_lt_of_pos _ hn⟩
end Go.Sx
