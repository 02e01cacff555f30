/- The executor's steps on integers, and that each is sound. -/
import Derived.Test.YthjfkblnbecjgaaGreatDoorSxA
set_option linter.unusedVariables false
namespace Go.Sx

theorem Env.app_nil (ρ : Env) : ρ.app .nil = ρ := by simp [Env.app, Env.nil]
theorem Env.app_assoc (ρ σ τ : Env) : (ρ.app σ).app τ = ρ.app (σ.app τ) := by simp [Env.app]
theorem Env.le_refl (ρ : Env) : ρ.le ρ := ⟨.nil, (Env.app_nil ρ).symm⟩
theorem Env.le_app (ρ τ : Env) : ρ.le (ρ.app τ) := ⟨τ, rfl⟩
theorem Env.le_trans {a b c : Env} (h : a.le b) (g : b.le c) : a.le c := by
  obtain ⟨s, rfl⟩ := h; obtain ⟨t, rfl⟩ := g; exact ⟨s.app t, Env.app_assoc a s t⟩

/-- Integer operations whose operands are all fixed. -/
theorem getD_app {α : Type} {l m : List α} {i : Nat} {d : α} (h : i < l.length) : (l ++ m).getD i d = l.getD i d := by
  simp [List.getD, List.getElem?_append_left h]
theorem getD_app_at {α : Type} (l m : List α) (x d : α) : (l ++ (x :: m)).getD l.length d = x := by
  simp [List.getD]
theorem At.den_app {is js : List Int} {a : At} (h : a.lt is.length = true) : a.den (is ++ js) = a.den is := by
  cases a with
  | c n => rfl
  | v i => exact getD_app (by simpa [At.lt] using h)
theorem At.lt_mono {a : At} {n m : Nat} (h : a.lt n = true) (l : n ≤ m) : a.lt m = true := by
  cases a <;> simp_all [At.lt]; omega
mutual
theorem SV.ok_mono {ni nb mi mb : Nat} (l1 : ni ≤ mi) (l2 : nb ≤ mb) : ∀ x : SV, SV.ok ni nb x = true → SV.ok mi mb x = true
  | .i _ a, h => At.lt_mono (by simpa [SV.ok] using h) l1
  | .b a, h => At.lt_mono (by simpa [SV.ok] using h) l1
  | .nilp, _ => rfl
  | .ptr n o, h => by
    simp only [SV.ok, Bool.and_eq_true, decide_eq_true_eq] at *
    exact ⟨by omega, At.lt_mono h.2 l1⟩
  | .slc n o len cap, h => by
    simp only [SV.ok, Bool.and_eq_true, decide_eq_true_eq] at *
    exact ⟨by omega, At.lt_mono h.2.1 l1, At.lt_mono h.2.2.1 l1, At.lt_mono h.2.2.2 l1⟩
  | .nils, _ => rfl
  | .raw _, _ => rfl
  | .iface _ x, h => by rw [SV.ok] at *; exact SV.ok_mono l1 l2 x h
  | .agg xs, h => by rw [SV.ok] at *; exact SV.oks_mono l1 l2 xs h
  | .tup xs, h => by rw [SV.ok] at *; exact SV.oks_mono l1 l2 xs h
  | .fn _ xs, h => by rw [SV.ok] at *; exact SV.oks_mono l1 l2 xs h
  | .vec n len cap, h => by
    simp only [SV.ok, Bool.and_eq_true, decide_eq_true_eq] at *
    exact ⟨by omega, At.lt_mono h.2.1 l1, At.lt_mono h.2.2 l1⟩
  | .mapv n, h => by
    simp only [SV.ok, decide_eq_true_eq] at *
    omega
theorem SV.oks_mono {ni nb mi mb : Nat} (l1 : ni ≤ mi) (l2 : nb ≤ mb) : ∀ xs : List SV, SV.oks ni nb xs = true → SV.oks mi mb xs = true
  | [], _ => rfl
  | x :: xs, h => by
    simp only [SV.oks, Bool.and_eq_true] at *
    exact ⟨SV.ok_mono l1 l2 x h.1, SV.oks_mono l1 l2 xs h.2⟩
end
theorem Env.b_app {ρ σ : Env} {n : Nat} (h : n < ρ.bs.length) : (ρ.app σ).b n = ρ.b n := getD_app h
theorem Env.at_app {ρ σ : Env} {n : Nat} {o : At} (h : n < ρ.bs.length) (ho : o.lt ρ.is.length = true) : (ρ.app σ).at n o = ρ.at n o := by
  unfold Env.at; rw [Env.b_app h]
  have : At.den (ρ.app σ).is o = At.den ρ.is o := At.den_app ho
  rw [this]
mutual
theorem SV.den_app {ρ σ : Env} : ∀ x : SV, SV.ok ρ.is.length ρ.bs.length x = true → SV.den (ρ.app σ) x = SV.den ρ x
  | .i _ a, h => by
    have : At.den (ρ.app σ).is a = At.den ρ.is a := At.den_app (by simpa [SV.ok] using h)
    simp only [SV.den, this]
  | .b a, h => by
    have : At.den (ρ.app σ).is a = At.den ρ.is a := At.den_app (by simpa [SV.ok] using h)
    simp only [SV.den, this]
  | .nilp, _ => rfl
  | .ptr n o, h => by
    simp only [SV.ok, Bool.and_eq_true, decide_eq_true_eq] at h
    simp only [SV.den, Env.at_app h.1 h.2]
  | .slc n o len cap, h => by
    simp only [SV.ok, Bool.and_eq_true, decide_eq_true_eq] at h
    have h1 : At.den (ρ.app σ).is len = At.den ρ.is len := At.den_app h.2.2.1
    have h2 : At.den (ρ.app σ).is cap = At.den ρ.is cap := At.den_app h.2.2.2
    simp only [SV.den, Env.at_app h.1 h.2.1, h1, h2]
  | .nils, _ => rfl
  | .raw _, _ => rfl
  | .iface _ x, h => by rw [SV.ok] at h; simp only [SV.den, SV.den_app x h]
  | .agg xs, h => by rw [SV.ok] at h; simp only [SV.den, SV.dens_app xs h]
  | .tup xs, h => by rw [SV.ok] at h; simp only [SV.den, SV.dens_app xs h]
  | .fn _ xs, h => by rw [SV.ok] at h; simp only [SV.den, SV.dens_app xs h]
  | .vec n len cap, h => by
    simp only [SV.ok, Bool.and_eq_true, decide_eq_true_eq] at h
    have h1 : At.den (ρ.app σ).is len = At.den ρ.is len := At.den_app h.2.1
    have h2 : At.den (ρ.app σ).is cap = At.den ρ.is cap := At.den_app h.2.2
    simp only [SV.den, Env.b_app h.1, h1, h2]
  | .mapv n, h => by
    simp only [SV.ok, decide_eq_true_eq] at h
    simp only [SV.den, Env.b_app h]
theorem SV.dens_app {ρ σ : Env} : ∀ xs : List SV, SV.oks ρ.is.length ρ.bs.length xs = true → SV.dens (ρ.app σ) xs = SV.dens ρ xs
  | [], _ => rfl
  | x :: xs, h => by
    simp only [SV.oks, Bool.and_eq_true] at h
    simp only [SV.dens, SV.den_app x h.1, SV.dens_app xs h.2]
end
theorem Env.le_len {ρ ρ' : Env} (l : ρ.le ρ') : ρ.is.length ≤ ρ'.is.length ∧ ρ.ls.length ≤ ρ'.ls.length ∧ ρ.bs.length ≤ ρ'.bs.length := by
  obtain ⟨τ, rfl⟩ := l
  simp [Env.app]
theorem AtIs.mono {ρ ρ' : Env} {a : At} {n : Int} (h : AtIs ρ a n) (l : ρ.le ρ') : AtIs ρ' a n := by
  refine ⟨At.lt_mono h.1 (Env.le_len l).1, ?_⟩
  obtain ⟨τ, rfl⟩ := l
  rw [← h.2]; exact At.den_app h.1
theorem AtIs.app {ρ : Env} {a : At} {n : Int} (h : AtIs ρ a n) (σ : Env) : a.den (ρ.app σ).is = n := (h.mono (Env.le_app ρ σ)).2
theorem SvIs.mono {ρ ρ' : Env} {x : SV} {v : Value} (h : SvIs ρ x v) (l : ρ.le ρ') : SvIs ρ' x v := by
  refine ⟨SV.ok_mono (Env.le_len l).1 (Env.le_len l).2.2 x h.1, ?_⟩
  obtain ⟨τ, rfl⟩ := l
  rw [← h.2]; exact SV.den_app x h.1
theorem AtIs.val {ρ : Env} {a : At} {n : Int} (h : AtIs ρ a n) : a.den ρ.is = n := h.2
theorem SvIs.val {ρ : Env} {x : SV} {v : Value} (h : SvIs ρ x v) : SV.den ρ x = v := h.2
theorem RepS.mono {ρ ρ' : Env} {sl : Slots} {a : Act} (h : RepS ρ sl a) (l : ρ.le ρ') : RepS ρ' sl a :=
  ⟨h.size, h.defers, fun i x hx => let ⟨v, hv, hs⟩ := h.slots i x hx; ⟨v, hv, hs.mono l⟩⟩
@[simp] theorem At.den_c (is : List Int) (n : Int) : (At.c n).den is = n := rfl
@[simp] theorem At.den_v (is : List Int) (i : Nat) : (At.v i).den is = is.getD i 0 := rfl
theorem AtIs.c (ρ : Env) (n : Int) : AtIs ρ (.c n) n := ⟨rfl, rfl⟩
/-- What a step of the executor promises. -/
def MSpec (Φ : Phi) (C : Ctx) {α : Type} (m : M α) (ρ : Env) (h : H) (w : World) (R : α → Env → H → World → Prop) : Prop :=
  RepH C ρ h w → ∀ (k : α → H → Tree) (_ : (m h k).den Φ ρ.is ρ.ls), ∃ a ρ' h' w', ρ.le ρ' ∧ RepH C ρ' h' w' ∧ (k a h').den Φ ρ'.is ρ'.ls ∧ R a ρ' h' w'

section
variable {Φ : Phi} {C : Ctx} {α β : Type} {ρ : Env} {h : H} {w : World}
theorem MSpec.ret {a : α} {R : α → Env → H → World → Prop} (hr : R a ρ h w) : MSpec Φ C (pure a : M α) ρ h w R :=
  fun hh k hk => ⟨a, ρ, h, w, Env.le_refl ρ, hh, hk, hr⟩
theorem MSpec.bind {m : M α} {f : α → M β} {R : α → Env → H → World → Prop} {S : β → Env → H → World → Prop}
    (hm : MSpec Φ C m ρ h w R) (hf : ∀ a ρ' h' w', ρ.le ρ' → R a ρ' h' w' → MSpec Φ C (f a) ρ' h' w' S) : MSpec Φ C (m >>= f) ρ h w S := by
  intro hh k hk
  obtain ⟨a, ρ1, h1, w1, l1, r1, d1, p1⟩ := hm hh _ hk
  obtain ⟨b, ρ2, h2, w2, l2, r2, d2, p2⟩ := hf a ρ1 h1 w1 l1 p1 r1 _ d1
  exact ⟨b, ρ2, h2, w2, Env.le_trans l1 l2, r2, d2, p2⟩
theorem MSpec.no {n : Nat} {R : α → Env → H → World → Prop} : MSpec Φ C (M.no n : M α) ρ h w R := fun _ _ hk => hk.elim
theorem MSpec.mono {m : M α} {R S : α → Env → H → World → Prop} (hm : MSpec Φ C m ρ h w R) (hRS : ∀ a ρ' h' w', ρ.le ρ' → R a ρ' h' w' → S a ρ' h' w') : MSpec Φ C m ρ h w S := by
  intro hh k hk
  obtain ⟨a, ρ1, h1, w1, l1, r1, d1, p1⟩ := hm hh k hk
  exact ⟨a, ρ1, h1, w1, l1, r1, d1, hRS _ _ _ _ l1 p1⟩
/-- The representation may be used in the proof of a step. -/
theorem MSpec.rep {m : M α} {R : α → Env → H → World → Prop} (hm : RepH C ρ h w → MSpec Φ C m ρ h w R) : MSpec Φ C m ρ h w R :=
  fun hh => hm hh hh
theorem MSpec.get_bind {f : α → M β} {g : H → α} {S : β → Env → H → World → Prop} (hf : MSpec Φ C (f (g h)) ρ h w S) : MSpec Φ C ((fun h' k => k (g h') h' : M α) >>= f) ρ h w S :=
  fun hh k hk => hf hh k hk
end

/-! ### Ranges -/
def kmin (k : IntKind) : Int := k.min
def kmax (k : IntKind) : Int := k.max
abbrev Rng := Option (Int × Int)
def inR (x : Int) : Rng → Prop
  | none => True
  | some (lo, hi) => lo ≤ x ∧ x ≤ hi
def H.range (h : H) : At → Rng
  | .c n => some (n, n)
  | .v i => (h.rng.find? (·.1 == i)).map (·.2)
theorem range_ok {C : Ctx} {ρ : Env} {h : H} {w : World} (f : Facts C ρ h w) (a : At) : inR (a.den ρ.is) (h.range a) := by
  cases a with
  | c n => simp [H.range, inR, At.den]
  | v i =>
    simp only [H.range, At.den]
    cases e : h.rng.find? (·.1 == i) with
    | none => trivial
    | some r =>
      have hm := List.mem_of_find?_eq_some e
      have hi : r.1 = i := by simpa using List.find?_some e
      have := f.rng r hm
      rw [hi] at this
      exact this

def H.lrange (h : H) (l : Nat) : Rng := (h.lrng.find? (·.1 == l)).map (·.2)
theorem lrange_ok {C : Ctx} {ρ : Env} {h : H} {w : World} (f : Facts C ρ h w) (l : Nat) : ∀ x ∈ ρ.ls.getD l [], inR x (h.lrange l) := by
  intro x hx
  unfold H.lrange
  cases e : h.lrng.find? (·.1 == l) with
  | none => trivial
  | some r =>
    have hm := List.mem_of_find?_eq_some e
    have hi : r.1 = l := by simpa using List.find?_some e
    have := f.lrng r hm
    rw [hi] at this
    exact this x hx
/-- The range of a new variable, where it is easily told. -/
def H.rangeOf (h : H) : IOp → Rng
  | .add a b => match h.range a, h.range b with
    | some (l1, u1), some (l2, u2) => some (l1 + l2, u1 + u2)
    | _, _ => none
  | .sub a b => match h.range a, h.range b with
    | some (l1, u1), some (l2, u2) => some (l1 - u2, u1 - l2)
    | _, _ => none
  | .mul a (.c n) => match h.range a with
    | some (l, u) => if 0 ≤ n then some (l * n, u * n) else none
    | _ => none
  | .wr k _ => some (k.min, k.max)
  | .rem a (.c n) => if 0 < n then match h.range a with
      | some (l, u) => if 0 ≤ l then (if u < n then some (l, u) else some (0, n - 1)) else some (-(n - 1), n - 1)
      | none => some (-(n - 1), n - 1)
    else none
  | .quo k a (.c n) => if 0 < n then match h.range a with
      | some (l, u) => if 0 ≤ l && k.min ≤ 0 && u ≤ k.max then some (0, u / n) else none
      | none => none
    else none
  | .cmp .. => some (0, 1)
  | .not _ => some (0, 1)
  | .mn a b => match h.range a, h.range b with
    | some (l1, u1), some (l2, u2) => some (if l1 < l2 then l1 else l2, if u1 < u2 then u1 else u2)
    | _, _ => none
  | .mx a b => match h.range a, h.range b with
    | some (l1, u1), some (l2, u2) => some (if l1 < l2 then l2 else l1, if u1 < u2 then u2 else u1)
    | _, _ => none
  | .get l _ => match h.lrange l with
    | some (lo, hi) => some (if lo ≤ 0 then lo else 0, if 0 ≤ hi then hi else 0)
    | none => none
  | .len _ => none
  | .bit .and k _ (.c n) => if 0 ≤ n && n ≤ k.max then some (0, n) else none
  | _ => none

theorem wrap_range (k : IntKind) (x : Int) : k.min ≤ k.wrap x ∧ k.wrap x ≤ k.max := by
  cases k <;> simp [IntKind.min, IntKind.max, IntKind.wrap, IntKind.signed, IntKind.bits] <;> (try split) <;> omega
theorem wrap_in (k : IntKind) (x : Int) (h1 : k.min ≤ x) (h2 : x ≤ k.max) : k.wrap x = x := by
  cases k <;> simp [IntKind.min, IntKind.max, IntKind.wrap, IntKind.signed, IntKind.bits] at * <;> (try split) <;> omega
theorem b2i_range (b : Bool) : 0 ≤ b2i b ∧ b2i b ≤ 1 := by cases b <;> simp [b2i]


theorem and_range (k : IntKind) (x n : Int) (h0 : 0 ≤ n) (h1 : n ≤ k.max) : 0 ≤ bitDen .and k x n ∧ bitDen .and k x n ≤ n := by
  have hb : (BitVec.ofInt k.bits n).toNat = n.toNat := by
    cases k <;> simp [IntKind.max, IntKind.signed, IntKind.bits] at * <;> omega
  have hle : (BitVec.ofInt k.bits x &&& BitVec.ofInt k.bits n).toNat ≤ n.toNat := by
    rw [BitVec.toNat_and, hb]; exact Nat.and_le_right
  have hm : k.min ≤ 0 := by cases k <;> simp [IntKind.min, IntKind.signed, IntKind.bits]
  unfold bitDen
  simp only
  rw [wrap_in k _ (by omega) (by omega)]
  omega

theorem tdiv_le {a u n : Int} (h0 : 0 ≤ a) (hu : a ≤ u) (hn : 0 < n) : 0 ≤ a.tdiv n ∧ a.tdiv n ≤ u / n := by
  rw [Int.tdiv_eq_ediv_of_nonneg h0]
  exact ⟨Int.ediv_nonneg h0 (by omega), Int.ediv_le_ediv hn hu⟩
theorem tmod_bd (a : Int) {n : Int} (hn : 0 < n) : -(n - 1) ≤ a.tmod n ∧ a.tmod n ≤ n - 1 := by
  have h1 := Int.tmod_lt_of_pos a hn
  have h2 := Int.tmod_lt_of_pos (-a) hn
  rw [Int.neg_tmod] at h2
  omega

theorem getD_mem_or (l : List Int) (i : Nat) : l.getD i 0 ∈ l ∨ l.getD i 0 = 0 := by
  rcases Nat.lt_or_ge i l.length with hh | hh
  · left; simp [List.getD, List.getElem?_eq_getElem hh]
  · right; simp [List.getD, List.getElem?_eq_none hh]
theorem rangeOf_ok {C : Ctx} {ρ : Env} {h : H} {w : World} (f : Facts C ρ h w) (o : IOp) : inR (o.den ρ.is ρ.ls) (h.rangeOf o) := by
  have R := fun a => range_ok f a
  cases o with
  | add a b =>
    have ha := R a; have hb := R b
    simp only [H.rangeOf]
    split
    · rename_i e1 e2; rw [e1] at ha; rw [e2] at hb; simp only [inR, IOp.den] at *; omega
    · trivial
  | sub a b =>
    have ha := R a; have hb := R b
    simp only [H.rangeOf]
    split
    · rename_i e1 e2; rw [e1] at ha; rw [e2] at hb; simp only [inR, IOp.den] at *; omega
    · trivial
  | mul a b =>
    cases b with
    | v i => trivial
    | c n =>
      have ha := R a
      simp only [H.rangeOf]
      split
      · rename_i e1; rw [e1] at ha
        split
        · simp only [inR, IOp.den, At.den_c] at *
          exact ⟨Int.mul_le_mul_of_nonneg_right ha.1 (by assumption), Int.mul_le_mul_of_nonneg_right ha.2 (by assumption)⟩
        · trivial
      · trivial
  | wr k a => exact wrap_range k _
  | quo k a b =>
    cases b with
    | v i => trivial
    | c n =>
      have ha := R a
      simp only [H.rangeOf]
      split
      · split
        · rename_i hn _ l u e1; rw [e1] at ha
          split
          · rename_i hc
            simp only [Bool.and_eq_true, decide_eq_true_eq] at hc
            simp only [inR, IOp.den, At.den_c] at *
            have := tdiv_le (n := n) (a := At.den ρ.is a) (u := u) (by omega) ha.2 hn
            have h3 : u / n ≤ u := Int.ediv_le_self _ (by omega)
            rw [wrap_in k _ (by omega) (by omega)]
            exact this
          · trivial
        · trivial
      · trivial
  | rem a b =>
    cases b with
    | v i => trivial
    | c n =>
      have ha := R a
      simp only [H.rangeOf]
      split
      · rename_i hn
        have hb := tmod_bd (At.den ρ.is a) hn
        split
        · rename_i l u e1; rw [e1] at ha
          split
          · rename_i hl
            split
            · rename_i hu
              simp only [inR, IOp.den, At.den_c] at *
              rw [Int.tmod_eq_of_lt (by omega) (by omega)]
              exact ha
            · simp only [inR, IOp.den, At.den_c] at *
              exact ⟨Int.tmod_nonneg _ (by omega), hb.2⟩
          · exact hb
        · exact hb
      · trivial
  | bit op k a b =>
    cases b with
    | v i => cases op <;> trivial
    | c n =>
      cases op <;> try trivial
      simp only [H.rangeOf]
      split
      · rename_i hc
        simp only [Bool.and_eq_true, decide_eq_true_eq] at hc
        exact and_range k _ n hc.1 hc.2
      · trivial
  | cmp op a b => exact b2i_range _
  | not a => exact b2i_range _
  | mn a b =>
    have ha := R a; have hb := R b
    simp only [H.rangeOf]
    split
    · rename_i e1 e2; rw [e1] at ha; rw [e2] at hb; simp only [inR, IOp.den] at *; repeat (first | omega | split)
    · trivial
  | mx a b =>
    have ha := R a; have hb := R b
    simp only [H.rangeOf]
    split
    · rename_i e1 e2; rw [e1] at ha; rw [e2] at hb; simp only [inR, IOp.den] at *; repeat (first | omega | split)
    · trivial
  | get l a =>
    simp only [H.rangeOf]
    split
    · rename_i lo hi e
      have hl := lrange_ok f l
      rw [e] at hl
      simp only [IOp.den, inR]
      have := getD_mem_or (ρ.ls.getD l []) (At.den ρ.is a).toNat
      rcases this with hh | hh
      · have := hl _ hh
        simp only [inR] at this
        constructor <;> split <;> omega
      · rw [hh]; constructor <;> split <;> omega
    · trivial
  | _ => trivial

end Go.Sx
