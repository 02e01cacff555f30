/- Contracts as templates: instances, equality, guesses. -/
import Derived.Test.YthjfkblnbecjgaaGreatDoorSxQ
set_option linter.unusedVariables false
namespace Go.Sx

structure Sub where
  is : List At
  ls : List Nat
  bs : List Nat
deriving Inhabited

def At.inst (θ : Sub) : At → At
  | .c n => .c n
  | .v i => θ.is.getD i (.c 0)
mutual
def SV.inst (θ : Sub) : SV → SV
  | .i k a => .i k (a.inst θ)
  | .b a => .b (a.inst θ)
  | .nilp => .nilp
  | .ptr n o => .ptr (θ.bs.getD n 0) (o.inst θ)
  | .slc n o len cap => .slc (θ.bs.getD n 0) (o.inst θ) (len.inst θ) (cap.inst θ)
  | .nils => .nils
  | .raw v => .raw v
  | .iface t x => .iface t (SV.inst θ x)
  | .agg xs => .agg (SV.insts θ xs)
  | .tup xs => .tup (SV.insts θ xs)
  | .fn f cs => .fn f (SV.insts θ cs)
  | .vec n len cap => .vec (θ.bs.getD n 0) (len.inst θ) (cap.inst θ)
  | .mapv n => .mapv (θ.bs.getD n 0)
def SV.insts (θ : Sub) : List SV → List SV
  | [] => []
  | x :: xs => SV.inst θ x :: SV.insts θ xs
end
def Blk.inst (θ : Sub) : Blk → Blk
  | .cells xs sz el => .cells (SV.insts θ xs) (sz.inst θ) el
  | .arr ks l len sz el => .arr ks (θ.ls.getD l 0) (len.inst θ) (sz.inst θ) el
  | .ro ks l len => .ro ks (θ.ls.getD l 0) (len.inst θ)
  | .map ks vs => .map (SV.insts θ ks) (SV.insts θ vs)

/-! ### Equality -/
def rawEq : Value → Value → Bool
  | .string a, .string b => a.data.toList == b.data.toList
  | .nilIface, .nilIface => true
  | .nilFunc, .nilFunc => true
  | .pointer (some a), .pointer (some b) => decide (a = b)
  | _, _ => false
theorem rawEq_eq {a b : Value} (h : rawEq a b = true) : a = b := by
  unfold rawEq at h
  split at h
  · rename_i a b
    obtain ⟨⟨x⟩⟩ := a
    obtain ⟨⟨y⟩⟩ := b
    simp only [beq_iff_eq] at h
    subst h; rfl
  · rfl
  · rfl
  · have := of_decide_eq_true h; subst this; rfl
  · cases h
def fnEq : Fn → Fn → Bool := fun a b => decide (a = b)
mutual
def svEq : SV → SV → Bool
  | .i k a, .i k' b => decide (k = k') && decide (a = b)
  | .b a, .b b => decide (a = b)
  | .nilp, .nilp => true
  | .ptr n o, .ptr m o' => decide (n = m) && decide (o = o')
  | .slc n o l c, .slc m o' l' c' => decide (n = m) && (decide (o = o') && (decide (l = l') && decide (c = c')))
  | .nils, .nils => true
  | .raw v, .raw u => rawEq v u
  | .iface t x, .iface u y => decide (t = u) && svEq x y
  | .agg xs, .agg ys => svsEq xs ys
  | .tup xs, .tup ys => svsEq xs ys
  | .fn f xs, .fn g ys => fnEq f g && svsEq xs ys
  | .vec n l c, .vec m l' c' => decide (n = m) && (decide (l = l') && decide (c = c'))
  | .mapv n, .mapv m => decide (n = m)
  | _, _ => false
def svsEq : List SV → List SV → Bool
  | [], [] => true
  | x :: xs, y :: ys => svEq x y && svsEq xs ys
  | _, _ => false
end
mutual
theorem svEq_eq : ∀ {x y : SV}, svEq x y = true → x = y
  | .i k a, y, h => by cases y <;> simp_all [svEq]
  | .b a, y, h => by cases y <;> simp_all [svEq]
  | .nilp, y, h => by cases y <;> simp_all [svEq]
  | .ptr n o, y, h => by cases y <;> simp_all [svEq]
  | .slc n o l c, y, h => by cases y <;> simp_all [svEq]
  | .nils, y, h => by cases y <;> simp_all [svEq]
  | .raw v, y, h => by
    cases y <;> simp only [svEq, Bool.false_eq_true] at h
    rw [rawEq_eq h]
  | .iface t x, y, h => by
    cases y <;> simp only [svEq, Bool.false_eq_true, Bool.and_eq_true, decide_eq_true_eq] at h
    rw [h.1, svEq_eq h.2]
  | .agg xs, y, h => by
    cases y <;> simp only [svEq, Bool.false_eq_true] at h
    rw [svsEq_eq h]
  | .tup xs, y, h => by
    cases y <;> simp only [svEq, Bool.false_eq_true] at h
    rw [svsEq_eq h]
  | .fn f xs, y, h => by
    cases y <;> simp only [svEq, Bool.false_eq_true, Bool.and_eq_true] at h
    rw [of_decide_eq_true h.1, svsEq_eq h.2]
  | .vec n l c, y, h => by cases y <;> simp_all [svEq]
  | .mapv n, y, h => by cases y <;> simp_all [svEq]
theorem svsEq_eq : ∀ {xs ys : List SV}, svsEq xs ys = true → xs = ys
  | [], [], _ => rfl
  | [], _ :: _, h => by cases h
  | _ :: _, [], h => by cases h
  | x :: xs, y :: ys, h => by
    simp only [svsEq, Bool.and_eq_true] at h
    rw [svEq_eq h.1, svsEq_eq h.2]
end
def blkEq : Blk → Blk → Bool
  | .cells xs sz el, .cells ys sz' el' => svsEq xs ys && (decide (sz = sz') && decide (el = el'))
  | .arr ks l n sz el, .arr ks' l' n' sz' el' => decide (ks = ks') && (decide (l = l') && (decide (n = n') && (decide (sz = sz') && decide (el = el'))))
  | .ro ks l n, .ro ks' l' n' => decide (ks = ks') && (decide (l = l') && decide (n = n'))
  | .map ks vs, .map ks' vs' => svsEq ks ks' && svsEq vs vs'
  | _, _ => false
theorem blkEq_eq {a b : Blk} (h : blkEq a b = true) : a = b := by
  cases a <;> cases b <;> simp only [blkEq, Bool.and_eq_true, decide_eq_true_eq, Bool.false_eq_true] at h
  · rw [svsEq_eq h.1, h.2.1, h.2.2]
  · simp_all
  · simp_all
  · rw [svsEq_eq h.1, svsEq_eq h.2]

/-! ### Instances mean the same -/
def Sub.env (θ : Sub) (ρ : Env) : Env := ⟨θ.is.map (·.den ρ.is), θ.ls.map fun l => ρ.ls.getD l [], θ.bs.map ρ.b⟩
theorem inst_at {θ : Sub} {ρ : Env} {a : At} (h : a.lt θ.is.length = true) : a.den (θ.env ρ).is = (a.inst θ).den ρ.is := by
  cases a with
  | c n => rfl
  | v i =>
    have hi : i < θ.is.length := by simpa [At.lt] using h
    simp [Sub.env, At.inst, List.getD, List.getElem?_eq_getElem hi]
theorem inst_b {θ : Sub} {ρ : Env} {n : Nat} (h : n < θ.bs.length) : (θ.env ρ).b n = ρ.b (θ.bs.getD n 0) := by
  simp [Sub.env, Env.b, List.getD, List.getElem?_eq_getElem h]
theorem inst_l {θ : Sub} {ρ : Env} {l : Nat} (h : l < θ.ls.length) : (θ.env ρ).ls.getD l [] = ρ.ls.getD (θ.ls.getD l 0) [] := by
  simp [Sub.env, List.getD, List.getElem?_eq_getElem h]
theorem inst_addr {θ : Sub} {ρ : Env} {n : Nat} {o : At} (h : n < θ.bs.length) (ho : o.lt θ.is.length = true) : (θ.env ρ).at n o = ρ.at (θ.bs.getD n 0) (o.inst θ) := by
  unfold Env.at; rw [inst_b h, inst_at ho]
mutual
theorem inst_den {θ : Sub} {ρ : Env} : ∀ x : SV, SV.ok θ.is.length θ.bs.length x = true → SV.den (θ.env ρ) x = SV.den ρ (SV.inst θ x)
  | .i k a, h => by simp only [SV.ok] at h; simp only [SV.den, SV.inst, inst_at h]
  | .b a, h => by simp only [SV.ok] at h; simp only [SV.den, SV.inst, inst_at h]
  | .nilp, _ => rfl
  | .ptr n o, h => by
    simp only [SV.ok, Bool.and_eq_true, decide_eq_true_eq] at h
    simp only [SV.den, SV.inst, inst_addr h.1 h.2]
  | .slc n o len cap, h => by
    simp only [SV.ok, Bool.and_eq_true, decide_eq_true_eq] at h
    simp only [SV.den, SV.inst, inst_addr h.1 h.2.1, inst_at h.2.2.1, inst_at h.2.2.2]
  | .nils, _ => rfl
  | .raw _, _ => rfl
  | .iface _ x, h => by rw [SV.ok] at h; simp only [SV.den, SV.inst, inst_den x h]
  | .agg xs, h => by rw [SV.ok] at h; simp only [SV.den, SV.inst, inst_dens xs h]
  | .tup xs, h => by rw [SV.ok] at h; simp only [SV.den, SV.inst, inst_dens xs h]
  | .fn _ xs, h => by rw [SV.ok] at h; simp only [SV.den, SV.inst, inst_dens xs h]
  | .vec n len cap, h => by
    simp only [SV.ok, Bool.and_eq_true, decide_eq_true_eq] at h
    simp only [SV.den, SV.inst, inst_b h.1, inst_at h.2.1, inst_at h.2.2]
  | .mapv n, h => by
    simp only [SV.ok, decide_eq_true_eq] at h
    simp only [SV.den, SV.inst, inst_b h]
theorem inst_dens {θ : Sub} {ρ : Env} : ∀ xs : List SV, SV.oks θ.is.length θ.bs.length xs = true → SV.dens (θ.env ρ) xs = SV.dens ρ (SV.insts θ xs)
  | [], _ => rfl
  | x :: xs, h => by
    simp only [SV.oks, Bool.and_eq_true] at h
    simp only [SV.dens, SV.insts, inst_den x h.1, inst_dens xs h.2]
end

/-! ### Guesses (nothing is owed of them) -/
structure Gs where
  is : List (Nat × At)
  ls : List (Nat × Nat)
  bs : List (Nat × Nat)
def Gs.at (g : Gs) (t a : At) : Gs :=
  match t with
  | .v i => if g.is.any (·.1 == i) then g else { g with is := (i, a) :: g.is }
  | _ => g
def Gs.b (g : Gs) (t a : Nat) : Gs := if g.bs.any (·.1 == t) then g else { g with bs := (t, a) :: g.bs }
def Gs.l (g : Gs) (t a : Nat) : Gs := if g.ls.any (·.1 == t) then g else { g with ls := (t, a) :: g.ls }
mutual
def Gs.sv (g : Gs) : SV → SV → Gs
  | .i _ t, .i _ a => g.at t a
  | .b t, .b a => g.at t a
  | .ptr n o, .ptr m a => (g.b n m).at o a
  | .slc n o l c, .slc m o' l' c' => (((g.b n m).at o o').at l l').at c c'
  | .iface _ x, .iface _ y => g.sv x y
  | .agg xs, .agg ys => g.svs xs ys
  | .tup xs, .tup ys => g.svs xs ys
  | .fn _ xs, .fn _ ys => g.svs xs ys
  | .vec n l c, .vec m l' c' => ((g.b n m).at l l').at c c'
  | .mapv n, .mapv m => g.b n m
  | _, _ => g
def Gs.svs (g : Gs) : List SV → List SV → Gs
  | x :: xs, y :: ys => Gs.svs (g.sv x y) xs ys
  | _, _ => g
end
def Gs.blk (g : Gs) : Blk → Blk → Gs
  | .cells xs sz _, .cells ys sz' _ => (g.svs xs ys).at sz sz'
  | .arr _ l n sz _, .arr _ l' n' sz' _ => ((g.l l l').at n n').at sz sz'
  | .ro _ l n, .ro _ l' n' => (g.l l l').at n n'
  | .map ks vs, .map ks' vs' => (g.svs ks ks').svs vs vs'
  | _, _ => g
def assoc {α : Type} (l : List (Nat × α)) (i : Nat) : Option α := (l.find? (·.1 == i)).map (·.2)
def Gs.hp (g : Gs) (h : H) : List (Nat × Blk) → Gs
  | [] => g
  | (n, b) :: r =>
    match (assoc g.bs n).bind h.blk with
    | some b' => (g.blk b b').hp h r
    | none => g.hp h r
def upto {α : Type} (f : Nat → Option α) (d : α) : Nat → List α
  | 0 => []
  | n + 1 => upto f d n ++ [(f n).getD d]
def Gs.sub (g : Gs) (ni nl nb : Nat) : Sub := ⟨upto (assoc g.is) (.c 0) ni, upto (assoc g.ls) 0 nl, upto (assoc g.bs) 0 nb⟩
theorem upto_len {α : Type} (f : Nat → Option α) (d : α) : ∀ n, (upto f d n).length = n
  | 0 => rfl
  | n + 1 => by rw [upto, List.length_append, upto_len f d n]; rfl

end Go.Sx
