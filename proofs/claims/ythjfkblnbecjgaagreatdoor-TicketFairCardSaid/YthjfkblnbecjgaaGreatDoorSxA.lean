/- The symbolic executor: its terms, its states, its trees, and what they mean. -/
import Derived.Calls
import Derived.Orders
import Derived.Laws.Sem
import Derived.Laws.World
namespace Go.Sx

/-- An integer: known, or variable number i of the environment. -/
inductive At where
  | c (n : Int)
  | v (i : Nat)
deriving DecidableEq, Repr, Inhabited

structure Env where
  is : List Int
  ls : List (List Int)
  bs : List (Nat × Nat)

def Env.app (ρ σ : Env) : Env := ⟨ρ.is ++ σ.is, ρ.ls ++ σ.ls, ρ.bs ++ σ.bs⟩
def Env.nil : Env := ⟨[], [], []⟩
def Env.b (ρ : Env) (n : Nat) : Nat × Nat := ρ.bs.getD n (0, 0)
def Env.le (ρ ρ' : Env) : Prop := ∃ τ, ρ' = ρ.app τ

def At.den (is : List Int) : At → Int
  | .c n => n
  | .v i => is.getD i 0

/-- Operations on integers: variables are defined by them. -/
inductive IOp where
  | add (a b : At) | sub (a b : At) | mul (a b : At)
  | wr (k : IntKind) (a : At)
  | quo (k : IntKind) (a b : At)
  | rem (a b : At)
  | bit (op : BinOp) (k : IntKind) (a b : At)
  | shl (k : IntKind) (a b : At)
  | shr (k : IntKind) (a b : At)
  | get (l : Nat) (a : At)
  | len (l : Nat)
  | cmp (op : BinOp) (a b : At)
  | not (a : At)
  | mn (a b : At) | mx (a b : At)
  | pick (c a b : At)
deriving DecidableEq, Repr, Inhabited

def bitDen (op : BinOp) (k : IntKind) (x y : Int) : Int :=
  let a := BitVec.ofInt k.bits x
  let b := BitVec.ofInt k.bits y
  k.wrap ((match op with
    | .and => a &&& b
    | .or => a ||| b
    | .xor => a ^^^ b
    | .andNot => a &&& ~~~b
    | _ => a).toNat : Int)

def cmpB (op : BinOp) (x y : Int) : Bool :=
  match op with
  | .eql => x == y
  | .neq => x != y
  | .lss => decide (x < y)
  | .leq => decide (x ≤ y)
  | .gtr => decide (x > y)
  | .geq => decide (x ≥ y)
  | _ => false

def b2i (b : Bool) : Int := if b then 1 else 0

def IOp.den (is : List Int) (ls : List (List Int)) : IOp → Int
  | .add a b => a.den is + b.den is
  | .sub a b => a.den is - b.den is
  | .mul a b => a.den is * b.den is
  | .wr k a => k.wrap (a.den is)
  | .quo k a b => k.wrap ((a.den is).tdiv (b.den is))
  | .rem a b => (a.den is).tmod (b.den is)
  | .bit op k a b => bitDen op k (a.den is) (b.den is)
  | .shl k a b => k.wrap (a.den is * 2 ^ (min (b.den is).toNat k.bits))
  | .shr k a b => (a.den is).fdiv (2 ^ (min (b.den is).toNat k.bits))
  | .get l a => (ls.getD l []).getD (a.den is).toNat 0
  | .len l => (ls.getD l []).length
  | .cmp op a b => b2i (cmpB op (a.den is) (b.den is))
  | .not a => b2i (a.den is == 0)
  | .mn a b => if b.den is < a.den is then b.den is else a.den is
  | .mx a b => if b.den is > a.den is then b.den is else a.den is
  | .pick c a b => if c.den is = 0 then b.den is else a.den is

/-- Operations on lists. -/
inductive LOp where
  | set (l : Nat) (i v : At)
  | lit (xs : List At)
  | rep (n : At) (v : At)
  | push (l : Nat) (v : At)
  | take (l : Nat) (n : At)
  | drop (l : Nat) (n : At)
  | app (l m : Nat)
  | put (l : Nat) (n : At) (m : Nat)
deriving DecidableEq, Repr, Inhabited

/-- A list with another one written over it from a place on. -/
def putL (l : List Int) (n : Nat) (m : List Int) : List Int := l.take n ++ m ++ l.drop (n + m.length)

def LOp.den (is : List Int) (ls : List (List Int)) : LOp → List Int
  | .set l i v => (ls.getD l []).set (i.den is).toNat (v.den is)
  | .lit xs => xs.map (·.den is)
  | .rep n v => List.replicate (n.den is).toNat (v.den is)
  | .push l v => ls.getD l [] ++ [v.den is]
  | .take l n => (ls.getD l []).take (n.den is).toNat
  | .drop l n => (ls.getD l []).drop (n.den is).toNat
  | .app l m => ls.getD l [] ++ ls.getD m []
  | .put l n m => putL (ls.getD l []) (n.den is).toNat (ls.getD m [])

/-- What a contract says of the integers and lists that go in and those that come out. -/
structure Rel where
  pre : List Int → List (List Int) → Prop
  post : List Int → List (List Int) → List Int → List (List Int) → Prop

inductive Tree where
  | fail (why : Nat)
  | done (xs : List At) (ls : List Nat)
  | letI (o : IOp) (t : Tree)
  | letL (o : LOp) (t : Tree)
  | ite (a : At) (t e : Tree)
  | need (op : BinOp) (a b : At) (t : Tree)
  | call (f : Nat) (r : Rel) (ins : List At) (lins : List Nat) (ni nl : Nat) (t : Tree)
  | loop (ents : List At) (lents : List Nat) (body : Tree)
  | again (xs : List At) (ls : List Nat)
  | exit (t : Tree)
  | both (a b : Tree)
  | any (lo hi : At) (t : Tree)
deriving Inhabited

structure Phi where
  post : List Int → List (List Int) → Prop
  ag : List (List Int → List (List Int) → Prop)

def Phi.push (Φ : Phi) (p : List Int → List (List Int) → Prop) : Phi := ⟨Φ.post, p :: Φ.ag⟩
def Phi.pop (Φ : Phi) : Phi := ⟨Φ.post, Φ.ag.tail⟩
def Phi.top (Φ : Phi) (xs : List Int) (ls : List (List Int)) : Prop :=
  match Φ.ag with
  | p :: _ => p xs ls
  | [] => False

def Tree.den (Φ : Phi) : Tree → List Int → List (List Int) → Prop
  | .fail _, _, _ => False
  | .done xs ls, is, lls => Φ.post (xs.map (·.den is)) (ls.map fun l => lls.getD l [])
  | .letI o t, is, lls => ∀ x, x = o.den is lls → t.den Φ (is ++ [x]) lls
  | .letL o t, is, lls => ∀ x, x = o.den is lls → t.den Φ is (lls ++ [x])
  | .ite a t e, is, lls => (a.den is ≠ 0 → t.den Φ is lls) ∧ (a.den is = 0 → e.den Φ is lls)
  | .need op a b t, is, lls => cmpB op (a.den is) (b.den is) = true ∧ t.den Φ is lls
  | .call _ r ins lins ni nl t, is, lls =>
    r.pre (ins.map (·.den is)) (lins.map fun l => lls.getD l []) ∧
    ∀ xs ys, xs.length = ni → ys.length = nl → r.post (ins.map (·.den is)) (lins.map fun l => lls.getD l []) xs ys → t.den Φ (is ++ xs) (lls ++ ys)
  | .loop ents lents body, is, lls =>
    ∃ (I : List Int → List (List Int) → Prop) (μ : List Int → List (List Int) → Nat),
      I (ents.map (·.den is)) (lents.map fun l => lls.getD l []) ∧
      ∀ xs ys, xs.length = ents.length → ys.length = lents.length → I xs ys →
        body.den (Φ.push fun xs' ys' => I xs' ys' ∧ μ xs' ys' < μ xs ys) (is ++ xs) (lls ++ ys)
  | .again xs ls, is, lls => Φ.top (xs.map (·.den is)) (ls.map fun l => lls.getD l [])
  | .exit t, is, lls => t.den Φ.pop is lls
  | .both a b, is, lls => a.den Φ is lls ∧ b.den Φ is lls
  | .any lo hi t, is, lls => ∀ x, lo.den is ≤ x → x ≤ hi.den is → t.den Φ (is ++ [x]) lls

/-- A symbolic value. -/
inductive SV where
  | i (k : IntKind) (a : At)
  | b (a : At)
  | nilp
  | ptr (n : Nat) (o : At)
  | slc (n : Nat) (o len cap : At)
  | nils
  | raw (v : Value)
  | iface (t : TypeId) (x : SV)
  | agg (xs : List SV)
  | tup (xs : List SV)
  | fn (fn : Fn) (caps : List SV)
  | vec (n : Nat) (len cap : At)
  | mapv (n : Nat)
deriving Inhabited

def Env.at (ρ : Env) (n : Nat) (o : At) : Addr := ⟨(ρ.b n).1, (ρ.b n).2 + (o.den ρ.is).toNat, none⟩

mutual
def SV.den (ρ : Env) : SV → Value
  | .i k a => .int k (a.den ρ.is)
  | .b a => .bool (a.den ρ.is != 0)
  | .nilp => .pointer none
  | .ptr n o => .pointer (some (ρ.at n o))
  | .slc n o len cap => .slice (some (ρ.at n o)) (len.den ρ.is).toNat (cap.den ρ.is).toNat
  | .nils => .slice none 0 0
  | .raw v => v
  | .iface t x => .iface t (SV.den ρ x)
  | .agg xs => .agg (SV.dens ρ xs).toArray
  | .tup xs => .tuple (SV.dens ρ xs).toArray
  | .fn f cs => .func f #[] (SV.dens ρ cs).toArray
  | .vec n len cap => if cap.den ρ.is = 0 then .slice none 0 0 else .slice (some ⟨(ρ.b n).1, (ρ.b n).2, none⟩) (len.den ρ.is).toNat (cap.den ρ.is).toNat
  | .mapv n => .map (some (ρ.b n).1)
def SV.dens (ρ : Env) : List SV → List Value
  | [] => []
  | x :: xs => SV.den ρ x :: SV.dens ρ xs
end

theorem SV.dens_eq (ρ : Env) : ∀ xs, SV.dens ρ xs = xs.map (SV.den ρ)
  | [] => rfl
  | x :: xs => by rw [SV.dens, SV.dens_eq ρ xs]; rfl

/-- The kind of a cell of numbers: an integer, a truth value (0: false). -/
inductive CK where
  | i (k : IntKind)
  | b
deriving DecidableEq, Repr, Inhabited
def CK.val : CK → Int → Value
  | .i k, n => .int k n
  | .b, n => .bool (n != 0)
def CK.lo : CK → Int
  | .i k => k.min
  | .b => 0
def CK.hi : CK → Int
  | .i k => k.max
  | .b => 1
def CK.sv : CK → At → SV
  | .i k, a => .i k a
  | .b, a => .b a

/-- Memory: a block known cell by cell, up to a length (behind it stands anything); a block of numbers, its content up to a length a list; a read-only stretch of numbers; a map, entry by entry. -/
inductive Blk where
  | cells (xs : List SV) (sz : At) (elem : TypeId)
  | arr (ks : List CK) (l : Nat) (len sz : At) (elem : TypeId)
  | ro (ks : List CK) (l : Nat) (len : At)
  | map (keys vals : List SV)
deriving Inhabited

def cellAt (ks : List CK) (j : Nat) (n : Int) : Value := (ks.getD (j % ks.length) (.i .i64)).val n
def cellsOf (ks : List CK) (l : List Int) : List Value := l.mapIdx (cellAt ks)

structure H where
  hp : List (Nat × Blk)
  ni : Nat
  nl : Nat
  nb : Nat
  rng : List (Nat × Int × Int)
  defs : List (Nat × IOp)
  lrng : List (Nat × Int × Int)
deriving Inhabited

structure Ctx where
  w0 : World
  own : List Nat
  ro : List (Addr × Value)

structure Frame (C : Ctx) (w : World) : Prop where
  size : C.w0.heap.size ≤ w.heap.size
  old : ∀ b, b < C.w0.heap.size → b ∉ C.own → w.heap[b]? = C.w0.heap[b]?
  os : w.os = C.w0.os
  output : w.output = C.w0.output

def At.lt (n : Nat) : At → Bool
  | .c _ => true
  | .v i => decide (i < n)
/-- 'a' is n in the environment, and in whatever comes of it. -/
def AtIs (ρ : Env) (a : At) (n : Int) : Prop := a.lt ρ.is.length = true ∧ a.den ρ.is = n
mutual
def SV.ok (ni nb : Nat) : SV → Bool
  | .i _ a => a.lt ni
  | .b a => a.lt ni
  | .nilp => true
  | .ptr n o => decide (n < nb) && o.lt ni
  | .slc n o len cap => decide (n < nb) && (o.lt ni && (len.lt ni && cap.lt ni))
  | .nils => true
  | .raw _ => true
  | .iface _ x => SV.ok ni nb x
  | .agg xs => SV.oks ni nb xs
  | .tup xs => SV.oks ni nb xs
  | .fn _ cs => SV.oks ni nb cs
  | .vec n len cap => decide (n < nb) && (len.lt ni && cap.lt ni)
  | .mapv n => decide (n < nb)
def SV.oks (ni nb : Nat) : List SV → Bool
  | [] => true
  | x :: xs => SV.ok ni nb x && SV.oks ni nb xs
end
def SvIs (ρ : Env) (x : SV) (v : Value) : Prop := SV.ok ρ.is.length ρ.bs.length x = true ∧ SV.den ρ x = v

/-- The places in the heap that a block owns. -/
def Blk.phys (ρ : Env) (n : Nat) : Blk → List Nat
  | .cells .. => [(ρ.b n).1]
  | .arr _ _ _ sz _ => if sz.den ρ.is = 0 then [] else [(ρ.b n).1]
  | .ro .. => []
  | .map .. => [(ρ.b n).1]
def Blk.owned : Blk → Bool
  | .ro .. => false
  | _ => true
def Blk.inB (ni nl nb : Nat) : Blk → Bool
  | .cells xs sz _ => SV.oks ni nb xs && sz.lt ni
  | .arr _ l len sz _ => decide (l < nl) && (len.lt ni && sz.lt ni)
  | .ro _ l len => decide (l < nl) && len.lt ni
  | .map ks vs => SV.oks ni nb ks && SV.oks ni nb vs
def HasCells (w : World) (p : Nat) (vs : List Value) (sz : Int) (elem : TypeId) : Prop :=
  ∃ rest : List Value, w.heap[p]? = some (.cells (vs ++ rest).toArray elem (0, 0)) ∧ ((vs.length + rest.length : Nat) : Int) = sz
def HasMap (w : World) (p : Nat) (ks vs : List Value) : Prop :=
  ∃ (es : Array MapEntry) (clock : Nat), w.heap[p]? = some (.map es clock) ∧ es.toList.map (·.key) = ks ∧ es.toList.map (·.val) = vs
/-- What stands in the block. -/
def Blk.holds (C : Ctx) (ρ : Env) (w : World) (n : Nat) : Blk → Prop
  | .cells xs sz elem => (ρ.b n).2 = 0 ∧ HasCells w (ρ.b n).1 (SV.dens ρ xs) (sz.den ρ.is) elem
  | .arr ks l len sz elem => ((ρ.ls.getD l []).length : Int) = len.den ρ.is ∧
      (sz.den ρ.is = 0 → ρ.ls.getD l [] = []) ∧ (sz.den ρ.is ≠ 0 → (ρ.b n).2 = 0 ∧ HasCells w (ρ.b n).1 (cellsOf ks (ρ.ls.getD l [])) (sz.den ρ.is) elem)
  | .ro ks l len => (ρ.b n).1 < C.w0.heap.size ∧ (ρ.b n).1 ∉ C.own ∧
      (∀ j, j < (ρ.ls.getD l []).length → C.w0.cell? ⟨(ρ.b n).1, (ρ.b n).2 + j, none⟩ = some (cellAt ks j ((ρ.ls.getD l []).getD j 0))) ∧
      ((ρ.ls.getD l []).length : Int) = len.den ρ.is ∧
      ∀ j, j < (ρ.ls.getD l []).length → (ks.getD (j % ks.length) (.i .i64)).lo ≤ (ρ.ls.getD l []).getD j 0 ∧ (ρ.ls.getD l []).getD j 0 ≤ (ks.getD (j % ks.length) (.i .i64)).hi
  | .map ks vs => HasMap w (ρ.b n).1 (SV.dens ρ ks) (SV.dens ρ vs)
def Ctx.mine (C : Ctx) (p : Nat) : Prop := C.w0.heap.size ≤ p ∨ p ∈ C.own
structure BlkOk (C : Ctx) (ρ : Env) (w : World) (n : Nat) (b : Blk) : Prop where
  lt : n < ρ.bs.length
  inB : b.inB ρ.is.length ρ.ls.length ρ.bs.length = true
  mine : ∀ p ∈ b.phys ρ n, C.mine p
  holds : b.holds C ρ w n

def ownPhys (ρ : Env) (hp : List (Nat × Blk)) : List Nat := hp.flatMap fun e => e.2.phys ρ e.1

structure Facts (C : Ctx) (ρ : Env) (h : H) (w : World) : Prop where
  heap : ∀ e ∈ h.hp, BlkOk C ρ w e.1 e.2
  nodup : (ownPhys ρ h.hp).Nodup
  rng : ∀ r ∈ h.rng, r.2.1 ≤ ρ.is.getD r.1 0 ∧ ρ.is.getD r.1 0 ≤ r.2.2
  defs : ∀ d ∈ h.defs, ρ.is.getD d.1 0 = d.2.den ρ.is ρ.ls
  lrng : ∀ r ∈ h.lrng, ∀ x ∈ ρ.ls.getD r.1 [], r.2.1 ≤ x ∧ x ≤ r.2.2

structure RepH (C : Ctx) (ρ : Env) (h : H) (w : World) : Prop where
  ni : ρ.is.length = h.ni
  nl : ρ.ls.length = h.nl
  nb : ρ.bs.length = h.nb
  facts : ∀ σ, Facts C (ρ.app σ) h w
  frame : Frame C w

abbrev Slots : Type := List (Option SV)
structure RepS (ρ : Env) (sl : Slots) (a : Act) : Prop where
  size : a.tmps.size = sl.length
  defers : a.defers = []
  slots : ∀ (i : Nat) (x : SV), sl[i]? = some (some x) → ∃ v, a.tmps[i]? = some v ∧ SvIs ρ x v

abbrev M (α : Type) := H → (α → H → Tree) → Tree
@[reducible] def M.ret {α : Type} (a : α) : M α := fun h k => k a h
@[reducible] def M.bnd {α β : Type} (m : M α) (f : α → M β) : M β := fun h k => m h fun a h' => f a h' k
def M.no {α : Type} (n : Nat) : M α := fun _ _ => .fail n
instance : Monad M where
  pure := M.ret
  bind := M.bnd

end Go.Sx
