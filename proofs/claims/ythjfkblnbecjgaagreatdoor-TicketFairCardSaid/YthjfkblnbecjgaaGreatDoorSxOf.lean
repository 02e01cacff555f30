/- Appends: to a slice that is the whole of its block. -/
import Derived.Test.YthjfkblnbecjgaaGreatDoorSxOe
set_option linter.unusedVariables false
namespace Go.Sx

section
variable {P : Program} {w : World}
/-- A slice that lies at the start of its block, or nil. -/
def Whole (w : World) (e : TypeId) (size : Nat) (v : Value) (n : Nat) (xs : List Value) : Prop :=
  (v = .slice none 0 0 ∧ n = 0 ∧ xs = []) ∨ (∃ a, v = .slice (some a) 0 0 ∧ n = 0 ∧ xs = []) ∨
  ∃ g cap cur, v = .slice (some ⟨g, 0, none⟩) n cap ∧ w.heap[g]? = some (.cells cur e (0, 0)) ∧ n ≤ cap ∧ cap ≤ 9223372036854775807 ∧ cur.size = cap * size ∧ cur.toList.take (n * size) = xs ∧ xs.length = n * size
def capOf : Value → Nat
  | .slice _ _ c => c
  | _ => 0
/-- The block that an append may write to. -/
def Value.lentBlock (v : Value) : Option Nat := if capOf v = 0 then none else v.ownBlock
/-- What a growing append leaves. -/
structure Grown (w w' : World) (e : TypeId) (size : Nat) (v : Value) (g cap need : Nat) (xs : List Value) : Prop where
  cells : ∃ rest : List Value, w'.heap[g]? = some (.cells (xs ++ rest).toArray e (0, 0)) ∧ xs.length + rest.length = cap * size
  len : xs.length = need * size
  ge : need ≤ cap
  le : cap ≤ 9223372036854775807
  by_ : w.grownBy w' (Value.lentBlock v)
  place : w.heap.size ≤ g ∨ Value.lentBlock v = some g
theorem grown_cells {w' : World} {g : Nat} {cur : Array Value} {e : TypeId} {xs : List Value} {k sz : Nat} (hg : w'.heap[g]? = some (.cells cur e (0, 0))) (hs : cur.size = sz) (ht : cur.toList.take k = xs) :
    ∃ rest : List Value, w'.heap[g]? = some (.cells (xs ++ rest).toArray e (0, 0)) ∧ xs.length + rest.length = sz := by
  refine ⟨cur.toList.drop k, ?_, ?_⟩
  · rw [← ht, List.take_append_drop]; simpa using hg
  · rw [← ht, ← List.length_append, List.take_append_drop]; simpa using hs
theorem append_whole {t ty e : TypeId} {i : TypeInfo} {z : Value} (ht : P.underlying t = some (.slice e)) (hi : P.info? e = some i) (hz : i.zero = some z)
    (hzs : z.cells.size = i.size) {v : Value} {n : Nat} {xs : List Value} (hw : Whole w e i.size v n xs)
    {a : Addr} {m c : Nat} {news : List Value} (hl : news.length = m * i.size) (hnews : ∀ j u, news[j]? = some u → w.cell? (a.add j) = some u) (h1 : ∀ u ∈ news, u.oneCell' = true)
    (hm : 0 < m) (h63 : n + m ≤ 1000000) (hbytes : i.bytes ≤ 1000) :
    ∃ g cap w', (Builtin.append_ #[t, t] ty #[v, .slice (some a) m c]).run P w = .ok (.slice (some ⟨g, 0, none⟩) (n + m) cap) w' ∧ Grown w w' e i.size v g cap (n + m) (xs ++ news) := by
  have hb2 : (n + m) * i.bytes ≤ 140737488355328 := by
    have := Nat.mul_le_mul h63 hbytes
    omega
  have grow : ∀ (old : Nat) (ys : List Value), ys.length = n * i.size → ys = xs → old < n + m →
      Grown w (w.drew.alloc (.cells (ys.toArray ++ news.toArray ++ Builtin.zeroCells z.cells (grownCap w (n + m) old e - (n + m))) e)) e i.size v w.heap.size (grownCap w (n + m) old e) (n + m) (xs ++ news) := by
    intro old ys hyl hy ho
    subst hy
    have hge := grownCap_ge w (n + m) old e
    have hcm : grownCap w (n + m) old e ≤ 9223372036854775807 := by
      have := grownCap_le_maxLen w (n + m) old e (by simp only [maxLen]; omega)
      simpa [maxLen] using this
    have hlen : (ys ++ news).length = (n + m) * i.size := by rw [List.length_append, hyl, hl, Nat.add_mul]
    refine ⟨grown_cells (k := (n + m) * i.size) (heap_alloc_new w.drew _) ?_ ?_, hlen, hge, hcm, ⟨rfl, rfl, rfl, by simp, fun k hk _ => heap_alloc_old w.drew _ k hk⟩, .inl (Nat.le_refl _)⟩
    · simp only [Array.size_append, List.size_toArray, size_zeroCells, hzs, hyl, hl, ← Nat.add_mul]
      congr 1
      omega
    · simp only [Array.toList_append, List.append_assoc]
      rw [← List.append_assoc, ← hlen]
      exact List.take_left
  rcases hw with ⟨rfl, rfl, rfl⟩ | ⟨b, rfl, rfl, rfl⟩ | ⟨g, cap, cur, rfl, hg, hnc, hcm, hcs, htake, hxl⟩
  · have hr := run_append_nil (P := P) w t ty e i z ht hi hz a m c news hl hnews (by omega) (by omega) (by simp only [Nat.zero_add] at hb2; omega)
    have hgr := grow 0 [] (by simp) rfl (by omega)
    simp only [Nat.zero_add, List.nil_append, Array.empty_append] at hgr ⊢
    exact ⟨_, _, _, hr, hgr⟩
  · have hr := run_append_grow (P := P) w t ty e i z ht hi hz b 0 0 [] (by simp) (fun j v h => by simp at h) a m c news hl hnews (by omega) (by omega) (growslice_fits (by omega) (by simpa using hb2))
    have hgr := grow 0 [] (by simp) rfl (by omega)
    simp only [Nat.zero_add, List.nil_append, Array.empty_append] at hgr hr ⊢
    exact ⟨_, _, _, hr, hgr⟩
  · by_cases hroom : n + m ≤ cap
    · have hfit : n * i.size + news.length ≤ cur.size := by rw [hl, hcs, ← Nat.add_mul]; exact Nat.mul_le_mul_right _ hroom
      have hr := run_append_room (P := P) w t ty e i ht hi g n cap cur hg a m c news hl hnews h1 hroom hfit
      have hlen : (xs ++ news).length = (n + m) * i.size := by rw [List.length_append, hxl, hl, Nat.add_mul]
      have hlent : Value.lentBlock (.slice (some ⟨g, 0, none⟩) n cap) = some g := by
        have h0 : cap ≠ 0 := by omega
        simp [Value.lentBlock, capOf, Value.ownBlock, h0]
      refine ⟨_, _, _, hr, grown_cells (k := (n + m) * i.size) (setRow_heap w g cur _ e _ hg) ?_ ?_, hlen, hroom, hcm, ⟨rfl, rfl, rfl, by simp, fun k _ hk => setRow_other w g k _ (fun e => hk (by rw [hlent, e]))⟩, .inr hlent⟩
      · have : n * i.size + m * i.size = (n + m) * i.size := (Nat.add_mul ..).symm
        simp only [List.size_toArray, List.length_append, List.length_take, List.length_drop, Array.length_toList]
        omega
      · rw [htake, ← hlen]
        exact List.take_left
    · have holds : ∀ j u, xs[j]? = some u → w.cell? ((⟨g, 0, none⟩ : Addr).add j) = some u := by
        intro j u hu
        have hadd : (⟨g, 0, none⟩ : Addr).add j = ⟨g, j, none⟩ := by unfold Addr.add; split <;> simp_all
        rw [hadd, cell_of_row w g j cur e (0, 0) hg]
        rw [← htake, List.getElem?_take] at hu
        split at hu
        · simpa using hu
        · cases hu
      have hr := run_append_grow (P := P) w t ty e i z ht hi hz ⟨g, 0, none⟩ n cap xs hxl holds a m c news hl hnews (by omega) (by omega) (growslice_fits (by omega) hb2)
      exact ⟨_, _, _, hr, grow cap xs hxl rfl (by omega)⟩
/-- Nothing is appended. -/
theorem append_none {t ty e : TypeId} {i : TypeInfo} (ht : P.underlying t = some (.slice e)) (hi : P.info? e = some i) {base a : Option Addr} {n cap c : Nat} (hn : n ≤ cap) :
    (Builtin.append_ #[t, t] ty #[.slice base n cap, .slice a 0 c]).run P w = .ok (.slice base n cap) w := by
  have hl : ∀ b : Addr, (loadCells b 0).run P w = .ok #[] w := fun b => run_loadCells_list w b [] (fun j v h => by simp at h)
  cases base <;> cases a <;> simp [Builtin.append_, run_underlying ht, sizeOf, typeInfo, hi, Builtin.lenOf, hn, Builtin.firstCells, storeCells, hl]
end

/-- Where a slice lies: at the start of its block. -/
inductive Dst where
  | nil
  | slc (n : Nat) (len cap : At)
  | vec (n : Nat) (len cap : At)
def dstOf (h : H) : SV → Option Dst
  | .nils => some .nil
  | .slc n o len cap => if h.zeroAt o then some (.slc n len cap) else none
  | .vec n len cap => some (.vec n len cap)
  | _ => none
def Dst.name : Dst → Option Nat
  | .nil => none
  | .slc n _ _ | .vec n _ _ => some n
def Dst.len : Dst → At
  | .nil => .c 0
  | .slc _ l _ | .vec _ l _ => l
def Dst.cap : Dst → At
  | .nil => .c 0
  | .slc _ _ c | .vec _ _ c => c
def At.small : At := .c 1000000
/-- The new block in the place of the old one. -/
def growTo (d : Dst) (out : SV) (b : Blk) : M SV := fun h k => k out { h.swap d.name.toList [(h.nb, b)] with nb := h.nb + 1 }
/-- The destination's numbers with the new ones behind them. -/
def oldNums1 (s : Nat) (d : Dst) (l : Nat) (bl0 sz0 : At) (m : Nat) : M Nat := do
  need .geq d.len (.c 0)
  need .leq d.len d.cap
  need .leq d.cap (.c 9223372036854775807)
  let e1 ← mkI (.mul d.len (.c s))
  need .leq e1 bl0
  let e2 ← mkI (.mul d.cap (.c s))
  need .eql e2 sz0
  let l1 ← (if sameAt e1 bl0 then pure l else mkL (.take l e1) : M Nat)
  mkL (.app l1 m)
def oldNums (elem : TypeId) (s : Nat) (d : Dst) (q : List CK × Nat) : M Nat := fun h kk =>
  match d.name with
  | none => kk q.2 h
  | some n => (match h.blk n with
    | some (.arr ks0 l bl0 sz0 el) => if ks0 = q.1 ∧ el = elem ∧ s % q.1.length = 0 then oldNums1 s d l bl0 sz0 q.2 h kk else .fail 411
    | _ => .fail 412)
/-- Appending numbers. -/
def appNums (elem : TypeId) (s : Nat) (d : Dst) (m : Nat) (p k : At) : M SV := do
  let need' ← mkI (.add d.len k)
  need .leq need' At.small
  let ks ← mkI (.mul k (.c s))
  let q ← rdList m p ks
  let l ← oldNums elem s d q
  let cap ← anyI need' (.c 9223372036854775807)
  let bl ← mkI (.mul need' (.c s))
  let sz ← mkI (.mul cap (.c s))
  fun h kk => growTo d (.slc h.nb (.c 0) need' cap) (.arr q.1 l bl sz elem) h kk
/-- Appending cells, their number known. -/
def oldCells1 (s : Nat) (d : Dst) (l0 : Int) (xs : List SV) (sz0 : At) : M (Nat × List SV) := do
  need .leq (.c l0) d.cap
  need .leq d.cap (.c 9223372036854775807)
  let e2 ← mkI (.mul d.cap (.c s))
  need .eql e2 sz0
  pure (l0.toNat, xs.take (l0.toNat * s))
def oldCells (elem : TypeId) (s : Nat) (d : Dst) (k : Nat) : M (Nat × List SV) := fun h kk =>
  match d.name with
  | none => kk (0, []) h
  | some n => (match h.fixed d.len, h.blk n with
    | some l0, some (.cells xs sz0 el) => if el = elem ∧ 0 ≤ l0 ∧ l0.toNat * s ≤ xs.length ∧ l0.toNat + k ≤ 1000000 then oldCells1 s d l0 xs sz0 h kk else .fail 413
    | _, _ => .fail 414)
def chkOne (ys : List SV) : M Unit := if ys.all SV.one then pure () else M.no 419
def appCells (elem : TypeId) (s : Nat) (d : Dst) (m : Nat) (p : At) (k : Nat) : M SV := do
  need .geq p (.c 0)
  let ys ← rdCells m p 0 (k * s)
  chkOne ys
  let q ← oldCells elem s d k
  let cap ← anyI (.c (q.1 + k : Nat)) (.c 9223372036854775807)
  let sz ← mkI (.mul cap (.c s))
  fun h kk => growTo d (.slc h.nb (.c 0) (.c (q.1 + k : Nat)) cap) (.cells (q.2 ++ ys) sz elem) h kk
def cellsDst (h : H) (d : Dst) : Bool :=
  match d with
  | .nil => true
  | .slc n len _ | .vec n len _ => (h.fixed len).isSome && (match h.blk n with | some (.cells _ _ _) => true | _ => false)
def appGo (elem : TypeId) (s : Nat) (d : Dst) (m : Nat) (p k : At) : M SV := fun h kk =>
  match h.fixed k with
  | some k0 => if cellsDst h d && decide (0 < k0 ∧ k0 ≤ 1000000) then appCells elem s d m p k0.toNat h kk
    else (do
      toArr m
      (match d.name with | some n => toArr n | none => pure ())
      appNums elem s d m p k : M SV) h kk
  | none => (do
      toArr m
      (match d.name with | some n => toArr n | none => pure ())
      appNums elem s d m p k : M SV) h kk
def appMain (elem : TypeId) (s : Nat) (x : SV) (d : Dst) (m : Nat) (p k : At) : M SV := do
  need .geq k (.c 0)
  let e ← mkI (.cmp .eql k (.c 0))
  let b ← dec e
  if b then (do need .leq d.len d.cap; pure x) else appGo elem s d m p k
/-- 'append' of one slice to another one. -/
def append2 (P : Program) (t t' : TypeId) (x y : SV) : M SV := fun h kk =>
  match P.underlying t with
  | some (.slice elem) => (match sizeT P elem, zeroCellsT P elem, P.info? elem with
    | some s, some zs, some inf =>
      if t = t' ∧ 0 < s ∧ zs.length = s ∧ inf.bytes ≤ 1000 then
        (match dstOf h x, y with
        | some d, .slc m p k _ => appMain elem s x d m p k h kk
        | some d, .vec m k c => (do
            let e ← mkI (.cmp .eql c (.c 0))
            let b ← dec e
            if b then (do need .leq d.len d.cap; pure x) else appMain elem s x d m (.c 0) k : M SV) h kk
        | some d, .nils => (do need .leq d.len d.cap; pure x : M SV) h kk
        | _, _ => .fail 415)
      else .fail 416
    | _, _, _ => .fail 417)
  | _ => .fail 418
end Go.Sx
