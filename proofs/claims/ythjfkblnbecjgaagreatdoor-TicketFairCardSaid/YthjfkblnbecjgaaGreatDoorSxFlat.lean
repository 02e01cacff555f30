/- Arguments that are numbers, truth values, structs and arrays of such, slices of these. -/
import Derived.Test.YthjfkblnbecjgaaGreatDoorSxRow
import Derived.OpenShut
import Derived.ChangeSlices
import Derived.DataElems
set_option linter.unusedVariables false
namespace Go.Sx
open Go.ChangeShapes Go.WideShapes Go.RowKit

def flatOk : List CK → List Int → Prop
  | [], [] => True
  | k :: ks, n :: ns => k.lo ≤ n ∧ n ≤ k.hi ∧ flatOk ks ns
  | _, _ => False
def valsOf : List CK → List Int → List Value
  | k :: ks, n :: ns => k.val n :: valsOf ks ns
  | _, _ => []
theorem flatOk_cons {k : CK} {ks : List CK} {ns : List Int} (h : flatOk (k :: ks) ns) : ∃ n ns', ns = n :: ns' ∧ k.lo ≤ n ∧ n ≤ k.hi ∧ flatOk ks ns' := by
  cases ns with
  | nil => exact h.elim
  | cons n ns' => exact ⟨n, ns', rfl, h⟩
theorem flatOk_nil {ns : List Int} (h : flatOk [] ns) : ns = [] := by
  cases ns with
  | nil => rfl
  | cons n ns' => exact h.elim
theorem flatOk_len : ∀ {ks : List CK} {ns : List Int}, flatOk ks ns → ns.length = ks.length
  | [], [], _ => rfl
  | [], _ :: _, h => h.elim
  | _ :: _, [], h => h.elim
  | k :: ks, n :: ns, h => by simp [flatOk_len h.2.2]
theorem flatOk_app : ∀ {ks ks' : List CK} {ns ns' : List Int}, flatOk ks ns → flatOk ks' ns' → flatOk (ks ++ ks') (ns ++ ns')
  | [], _, [], _, _, h => h
  | [], _, _ :: _, _, h, _ => h.elim
  | _ :: _, _, [], _, h, _ => h.elim
  | k :: ks, _, n :: ns, _, h, h' => ⟨h.1, h.2.1, flatOk_app h.2.2 h'⟩
theorem valsOf_app : ∀ {ks ks' : List CK} {ns ns' : List Int}, ns.length = ks.length → valsOf (ks ++ ks') (ns ++ ns') = valsOf ks ns ++ valsOf ks' ns'
  | [], _, [], _, _ => rfl
  | [], _, _ :: _, _, h => by simp at h
  | _ :: _, _, [], _, h => by simp at h
  | k :: ks, _, n :: ns, _, h => by
    simp only [List.cons_append, valsOf, valsOf_app (ks := ks) (ns := ns) (by simpa using h)]
theorem valsOf_len : ∀ {ks : List CK} {ns : List Int}, ns.length = ks.length → (valsOf ks ns).length = ks.length
  | [], [], _ => rfl
  | [], _ :: _, h => by simp at h
  | _ :: _, [], h => by simp at h
  | k :: ks, n :: ns, h => by simp [valsOf, valsOf_len (ks := ks) (ns := ns) (by simpa using h)]
theorem valsOf_get : ∀ {ks : List CK} {ns : List Int} {i : Nat}, ns.length = ks.length → i < ks.length → (valsOf ks ns)[i]? = some ((ks.getD i (.i .i64)).val (ns.getD i 0))
  | [], _, i, _, h => by simp at h
  | _ :: _, [], _, h, _ => by simp at h
  | k :: ks, n :: ns, 0, _, _ => by simp [valsOf]
  | k :: ks, n :: ns, i + 1, h, hi => by
    simp only [valsOf, List.getElem?_cons_succ]
    rw [valsOf_get (ks := ks) (ns := ns) (by simpa using h) (by simpa using hi)]
    simp
theorem flatOk_get : ∀ {ks : List CK} {ns : List Int} {i : Nat}, flatOk ks ns → i < ks.length → (ks.getD i (.i .i64)).lo ≤ ns.getD i 0 ∧ ns.getD i 0 ≤ (ks.getD i (.i .i64)).hi
  | [], _, i, _, h => by simp at h
  | _ :: _, [], _, h, _ => h.elim
  | k :: ks, n :: ns, 0, h, _ => by simpa using ⟨h.1, h.2.1⟩
  | k :: ks, n :: ns, i + 1, h, hi => by
    have := flatOk_get (ks := ks) (ns := ns) (i := i) h.2.2 (by simpa using hi)
    simpa using this

def repeatK (ks : List CK) : Nat → List CK
  | 0 => []
  | n + 1 => repeatK ks n ++ ks
theorem repeatK_len (ks : List CK) : ∀ n, (repeatK ks n).length = n * ks.length
  | 0 => by simp [repeatK]
  | n + 1 => by rw [repeatK, List.length_append, repeatK_len ks n, Nat.succ_mul]
def flatFs (F : TypeId → Option (List CK)) (S : TypeId → Nat) : Nat → List Field → Option (List CK)
  | _, [] => some []
  | off, f :: fs => match F f.type with
    | some ks => if f.offset = off ∧ ks.length = S f.type then (flatFs F S (off + ks.length) fs).map (ks ++ ·) else none
    | none => none
/-- The kinds of a type's cells, if they are numbers and truth values. -/
def flatT (P : Program) : Nat → TypeId → Option (List CK)
  | 0, _ => none
  | f + 1, t => match P.underlying t with
    | some (.int k) => some [.i k]
    | some .bool => some [.b]
    | some (.array n e) => match flatT P f e with
      | some ks => if ks.length = P.cellsOf e ∧ (repeatK ks n).length = P.cellsOf t then some (repeatK ks n) else none
      | none => none
    | some (.struct fs) => match flatFs (flatT P f) P.cellsOf 0 fs.toList with
      | some ks => if ks.length = P.cellsOf t then some ks else none
      | none => none
    | _ => none
def FlatIs (ks : List CK) (cs : List Value) : Prop := ∃ ns, cs = valsOf ks ns ∧ flatOk ks ns
theorem FlatIs.app {ks ks' : List CK} {cs cs' : List Value} : FlatIs ks cs → FlatIs ks' cs' → FlatIs (ks ++ ks') (cs ++ cs') := by
  rintro ⟨ns, rfl, h⟩ ⟨ns', rfl, h'⟩
  exact ⟨ns ++ ns', (valsOf_app (flatOk_len h)).symm, flatOk_app h h'⟩

section
variable {H : Type} {enc : TypeId × Value → H} {P : Program} {w : World} {base : Nat} {spare : Nat → Bool} {held : Bool}
theorem flat_arr {ks : List CK} {cs : List Value} : ∀ (n : Nat), (∀ i, i < n → FlatIs ks ((cs.drop (i * ks.length)).take ks.length)) → FlatIs (repeatK ks n) (cs.take (n * ks.length))
  | 0, _ => ⟨[], by simp [repeatK, valsOf], trivial⟩
  | n + 1, h => by
    have ih := flat_arr n fun i hi => h i (by omega)
    have := ih.app (h n (by omega))
    have e : cs.take (n * ks.length) ++ (cs.drop (n * ks.length)).take ks.length = cs.take ((n + 1) * ks.length) := by
      rw [Nat.succ_mul, List.take_add]
    rw [e] at this
    exact this
theorem flat_fs {F : TypeId → Option (List CK)} {S : TypeId → Nat} {cs : List Value} : ∀ (fs : List Field) (off : Nat) (ks : List CK), flatFs F S off fs = some ks →
    (∀ f ∈ fs, ∀ k, F f.type = some k → FlatIs k ((cs.drop f.offset).take (S f.type))) → FlatIs ks ((cs.drop off).take ks.length)
  | [], off, ks, e, _ => by cases e; exact ⟨[], by simp [valsOf], trivial⟩
  | f :: fs, off, ks, e, h => by
    unfold flatFs at e
    split at e
    · rename_i k ek
      split at e
      · rename_i hc
        obtain ⟨ho, hl⟩ := hc
        cases er : flatFs F S (off + k.length) fs with
        | none => rw [er] at e; cases e
        | some r =>
          rw [er] at e
          simp only [Option.map_some, Option.some.injEq] at e
          subst e
          have h1 := h f (List.mem_cons_self ..) k ek
          rw [ho, ← hl] at h1
          have h2 := flat_fs fs (off + k.length) r er fun g hg => h g (List.mem_cons_of_mem _ hg)
          have := h1.app h2
          have e2 : (cs.drop off).take k.length ++ (cs.drop (off + k.length)).take r.length = (cs.drop off).take (k ++ r).length := by
            rw [List.length_append, List.take_add, List.drop_drop]
          rw [e2] at this
          exact this
      · cases e
    · cases e
theorem flat_cells : ∀ (f : Nat) {t : TypeId} {ks : List CK}, flatT P f t = some ks → ∀ {fuel : Nat} {cs : List Value} {x : DataW H × List MemPlace}, DataW.trod enc P w base spare held fuel t cs = some x → FlatIs ks cs
  | 0, _, _, e, _, _, _, _ => by cases e
  | f + 1, t, ks, e, fuel, cs, x, hx => by
    unfold flatT at e
    split at e
    · rename_i k eu
      cases e
      obtain ⟨n, rfl, _, hw⟩ := DataW.trod_int eu hx
      have hr : k.min ≤ n ∧ n ≤ k.max := by simpa [Lit.wf] using hw
      exact ⟨[n], rfl, hr.1, hr.2, trivial⟩
    · rename_i eu
      cases e
      obtain ⟨b, rfl, _⟩ := DataW.trod_bool eu hx
      refine ⟨[b2i b], ?_, ?_⟩
      · cases b <;> simp [valsOf, CK.val, b2i]
      · cases b <;> simp [flatOk, CK.lo, CK.hi, b2i]
    · rename_i n el eu
      split at e
      · rename_i ks0 ek
        split at e
        · rename_i hc
          cases e
          obtain ⟨xs, m, _, _, hlen, hxs, hel⟩ := DataW.trod_array eu hx
          have := flat_arr (cs := cs) n fun i hi => by
            have h1 := hel i hi
            rw [List.getElem?_eq_getElem (by rw [hxs]; exact hi)] at h1
            have := flat_cells f ek h1
            rw [← hc.1] at this
            exact this
          rw [List.take_of_length_le (by rw [hlen, ← hc.2, repeatK_len]; exact Nat.le_refl _)] at this
          exact this
        · cases e
      · cases e
    · rename_i fs eu
      split at e
      · rename_i ks0 ek
        split at e
        · rename_i hc
          cases e
          obtain ⟨xs, m, _, _, hlen, hxs, hel⟩ := DataW.trod_struct eu hx
          have := flat_fs (cs := cs) fs.toList 0 ks ek fun fd hfd k hk => by
            obtain ⟨i, hi, hget⟩ := List.getElem_of_mem hfd
            have hi' : i < fs.size := by simpa using hi
            have h1 := hel i fd (by rw [Array.getElem?_eq_getElem hi']; exact congrArg some (by simpa using hget))
            rw [List.getElem?_eq_getElem (by rw [hxs]; exact hi')] at h1
            exact flat_cells f hk h1
          rw [List.drop_zero, List.take_of_length_le (by rw [hlen, hc]; exact Nat.le_refl _)] at this
          exact this
        · cases e
      · cases e
    · cases e

/-- A struct or an array of numbers. -/
theorem open_flat {r : Reach} {b0 f : Nat} {t : TypeId} {ks : List CK} {v : Value} {d : DataW H} {ps : List MemPlace} (hag : (match P.underlying t with | some (.struct _) => true | some (.array _ _) => true | _ => false) = true) (hf : flatT P f t = some ks)
    (hval : Value.okWide P w r b0 t v) (hd : DataW.Trod enc P w base spare held t v d ps) : ∃ ns, v = .agg (valsOf ks ns).toArray ∧ flatOk ks ns := by
  have ha : ∃ cs, v = .agg cs := by
    unfold Value.okWide at hval
    split at hval
    · obtain ⟨cs, h, _⟩ := hval; exact ⟨cs, h⟩
    · obtain ⟨cs, h, _⟩ := hval; exact ⟨cs, h⟩
    · rename_i h1 h2
      split at hag
      · rename_i e; exact absurd e (h1 _)
      · rename_i e; exact absurd e (h2 _ _)
      · cases hag
  obtain ⟨cs, rfl⟩ := ha
  obtain ⟨fuel, hf'⟩ := hd
  obtain ⟨ns, hns, hok⟩ := flat_cells f hf hf'
  have hcs : (Value.agg cs).cells.toList = cs.toList := rfl
  rw [hcs] at hns
  exact ⟨ns, by rw [← hns], hok⟩
/-- A slice of such. -/
structure FlatSlice (W : World) (base : Nat) (ks : List CK) (s : Nat) (a : Addr) (len cap : Nat) (L : List Int) : Prop where
  base : base ≤ a.block
  spot : a.spot = none
  blk : a.block < W.heap.size
  le : len ≤ cap
  max : cap ≤ 9223372036854775807
  length : L.length = len * s
  cell : ∀ j, j < L.length → W.cell? (a.add j) = some (cellAt ks j (L.getD j 0))
  typed : ∀ j, j < L.length → (ks.getD (j % ks.length) (.i .i64)).lo ≤ L.getD j 0 ∧ L.getD j 0 ≤ (ks.getD (j % ks.length) (.i .i64)).hi
theorem flat_rows {ks : List CK} (hk : 0 < ks.length) {a : Addr} : ∀ (n : Nat), (∀ i, i < n → ∃ ns, flatOk ks ns ∧ ∀ j, j < ks.length → w.cell? (a.add (i * ks.length + j)) = some ((ks.getD j (.i .i64)).val (ns.getD j 0))) →
    ∃ L : List Int, L.length = n * ks.length ∧ (∀ j, j < L.length → w.cell? (a.add j) = some (cellAt ks j (L.getD j 0))) ∧ ∀ j, j < L.length → (ks.getD (j % ks.length) (.i .i64)).lo ≤ L.getD j 0 ∧ L.getD j 0 ≤ (ks.getD (j % ks.length) (.i .i64)).hi
  | 0, _ => ⟨[], by simp, by simp, by simp⟩
  | n + 1, h => by
    obtain ⟨L, hl, hc, ht⟩ := flat_rows hk n fun i hi => h i (by omega)
    obtain ⟨ns, hok, hns⟩ := h n (by omega)
    have hnl := flatOk_len hok
    have key : ∀ j, ¬ j < L.length → j < (L ++ ns).length → j % ks.length = j - L.length ∧ j - L.length < ks.length ∧ (L ++ ns).getD j 0 = ns.getD (j - L.length) 0 := by
      intro j h1 h2
      rw [List.length_append, hnl] at h2
      refine ⟨?_, by omega, ?_⟩
      · have : j = (j - L.length) + ks.length * n := by rw [hl, Nat.mul_comm n] at *; omega
        conv => lhs; rw [this]
        rw [Nat.add_mul_mod_self_left, Nat.mod_eq_of_lt (by omega)]
      · simp only [List.getD]
        rw [List.getElem?_append_right (by omega)]
    have low : ∀ j, j < L.length → (L ++ ns).getD j 0 = L.getD j 0 := fun j hj => by simp [List.getD, List.getElem?_append_left hj]
    refine ⟨L ++ ns, by rw [List.length_append, hl, hnl, Nat.succ_mul], fun j hj => ?_, fun j hj => ?_⟩
    · by_cases h1 : j < L.length
      · rw [low j h1]; exact hc j h1
      · obtain ⟨k1, k2, k3⟩ := key j h1 hj
        have := hns (j - L.length) k2
        rw [show n * ks.length + (j - L.length) = j by omega] at this
        rw [this, k3]
        unfold cellAt
        rw [k1]
    · by_cases h1 : j < L.length
      · rw [low j h1]; exact ht j h1
      · obtain ⟨k1, k2, k3⟩ := key j h1 hj
        rw [k1, k3]
        exact flatOk_get hok k2
theorem open_flats {f : Nat} {t e : TypeId} {ks : List CK} (ht : P.underlying t = some (.slice e)) (hf : flatT P f e = some ks) (hc : P.cellsOf e = ks.length) (hk : 0 < ks.length) {r : Reach} {b0 : Nat} {v : Value} {d : DataW H} {ps : List MemPlace}
    (hd : DataW.Trod enc P w base spare held t v d ps) (hval : Value.okWide P w r b0 t v) : v = .slice none 0 0 ∨ ∃ a len cap L, v = .slice (some a) len cap ∧ FlatSlice w base ks ks.length a len cap L := by
  obtain ⟨fuel, hd⟩ := hd
  have hv : ∀ c, v.cells.toList = [c] → (∀ xs, v ≠ .agg xs) → v = c := by
    intro c hc hna
    cases v <;> simp [Value.cells] at hc <;> first | exact hc | exact absurd rfl (hna _)
  have hna : ∀ xs, v ≠ .agg xs := by
    intro xs hx
    subst hx
    unfold Value.okWide at hval
    rw [ht] at hval
    simp only at hval
    unfold Cell.okWide at hval
    rw [ht] at hval
    simp only at hval
    unfold Cell.ok at hval
    rw [ht] at hval
    simp at hval
  rcases DataW.trod_slice ht hd with ⟨h0, _⟩ | ⟨a, len, cap, elems, rest, n, _, h0, _, hb, hl, hm, hlen, hel, _, _⟩
  · exact .inl (hv _ h0 hna)
  · right
    have hrows := flat_rows (w := w) (ks := ks) (a := a) hk len fun i hi => by
      have h1 := hel i hi
      rw [List.getElem?_eq_getElem (by omega), hc, Option.bind_eq_some_iff] at h1
      obtain ⟨cs', h2, h3⟩ := h1
      obtain ⟨ns, rfl, hok⟩ := flat_cells f hf h3
      have h4 := (World.cells?_some h2)
      refine ⟨ns, hok, fun j hj => ?_⟩
      have h5 := h4.2.2 j hj
      rw [Addr.add_add] at h5
      rw [h5]
      exact valsOf_get (flatOk_len hok) hj
    obtain ⟨L, h1, h2, h3⟩ := hrows
    have hve := hv _ h0 hna
    have hhas : w.has P r b0 a e cap := by
      subst hve
      unfold Value.okWide at hval
      rw [ht] at hval
      simp only at hval
      unfold Cell.okWide at hval
      rw [ht] at hval
      simp only at hval
      unfold Cell.ok at hval
      rw [ht] at hval
      exact hval.2.2
    obtain ⟨_, hspot, row, cells, hsh, _⟩ := hhas
    have hblk : a.block < w.heap.size := by
      unfold World.shape? at hsh
      rcases Nat.lt_or_ge a.block w.heap.size with hh | hh
      · exact hh
      · rw [Array.getElem?_eq_none hh] at hsh; cases hsh
    exact ⟨a, len, cap, L, hve, hb, hspot, hblk, hl, by simpa [maxLen] using hm, h1, h2, h3⟩
theorem FlatSlice.ro {W : World} {base s : Nat} {ks : List CK} {a : Addr} {len cap : Nat} {L : List Int} (F : FlatSlice W base ks s a len cap L) {ro : List (Addr × Value)} {is : List Int} {ls : List (List Int)} {bs : List (Nat × Nat)} {n l : Nat} {la : At}
    (hn : n < bs.length) (hb : bs.getD n (0, 0) = (a.block, a.off)) (hl : l < ls.length) (hL : ls.getD l [] = L) (hla : la.lt is.length = true) (hlv : la.den is = L.length) :
    BlkOk ⟨W, [], ro⟩ ⟨is, ls, bs⟩ W n (.ro ks l la) := by
  refine ⟨hn, ?_, (fun p hp => by cases hp), ?_⟩
  · simp only [Blk.inB, Bool.and_eq_true, decide_eq_true_eq]; exact ⟨hl, hla⟩
  · have hb' : (⟨is, ls, bs⟩ : Env).b n = (a.block, a.off) := hb
    simp only [Blk.holds, hb']
    rw [hL]
    refine ⟨F.blk, by simp, fun j hj => ?_, hlv.symm, F.typed⟩
    have := F.cell j hj
    have e : a.add j = ⟨a.block, a.off + j, none⟩ := by
      unfold Addr.add
      have hs := F.spot
      cases a
      simp only at hs
      subst hs
      split
      · rename_i h; subst h; simp
      · rfl
    rw [e] at this
    exact this
theorem FlatSlice.val {W : World} {base s : Nat} {ks : List CK} {a : Addr} {len cap : Nat} {L : List Int} (F : FlatSlice W base ks s a len cap L) {is : List Int} {ls : List (List Int)} {bs : List (Nat × Nat)} {n : Nat} {la ca : At}
    (hb : bs.getD n (0, 0) = (a.block, a.off)) (hl : la.den is = len) (hc : ca.den is = cap) : SV.den ⟨is, ls, bs⟩ (.slc n (.c 0) la ca) = .slice (some a) len cap := by
  have hb' : (⟨is, ls, bs⟩ : Env).b n = (a.block, a.off) := hb
  simp only [SV.den, Env.at, hb', hl, hc, At.den_c]
  have hs := F.spot
  cases a
  simp only at hs
  subst hs
  simp
theorem oneKind_get (ks : List CK) (hk : 0 < ks.length) (j : Nat) : (oneKind ks).getD (j % (oneKind ks).length) (.i .i64) = ks.getD (j % ks.length) (.i .i64) := by
  unfold oneKind
  split
  · rename_i k r
    split
    · rename_i h
      have : ∀ i, i < (k :: r).length → (k :: r).getD i (.i .i64) = k := by
        intro i hi
        simp only [List.getD, List.getElem?_eq_getElem hi, Option.getD_some]
        rcases List.mem_cons.1 (List.getElem_mem hi) with hh | hh
        · exact hh
        · exact of_decide_eq_true (List.all_eq_true.1 h _ hh)
      simp only [List.length_cons]
      rw [this (j % (r.length + 1)) (Nat.mod_lt _ (by simp))]
      simp [Nat.mod_one]
    · rfl
  · simp at hk
theorem FlatSlice.one {W : World} {base s : Nat} {ks : List CK} {a : Addr} {len cap : Nat} {L : List Int} (hk : 0 < ks.length) (F : FlatSlice W base ks s a len cap L) : FlatSlice W base (oneKind ks) s a len cap L :=
  ⟨F.base, F.spot, F.blk, F.le, F.max, F.length, fun j hj => by rw [oneKind_cell ks hk]; exact F.cell j hj, fun j hj => by rw [oneKind_get ks hk]; exact F.typed j hj⟩

/-! ### A law's template, by its parameters -/
inductive Par where
  | one (k : CK)
  | agg (ks : List CK)
  | slc (ks : List CK)
  | nil
structure PSt where
  ni : Nat := 0
  nl : Nat := 0
  nb : Nat := 0
  args : List SV := []
  hp : List (Nat × Blk) := []
  irng : List (Nat × Int × Int) := []
  pre : List Int → List (List Int) → Prop := fun _ _ => True
/-- What is known of the numbers of a slice: its length, its room, its cells. -/
def slcPre (ks : List CK) (s i l : Nat) (is : List Int) (ls : List (List Int)) : Prop :=
  0 ≤ is.getD i 0 ∧ is.getD i 0 ≤ is.getD (i + 1) 0 ∧ ((ls.getD l []).length : Int) = is.getD i 0 * s ∧ (s ≠ 1 → is.getD (i + 2) 0 = is.getD i 0 * s) ∧
  ∀ j, j < (ls.getD l []).length → (ks.getD (j % ks.length) (.i .i64)).lo ≤ (ls.getD l []).getD j 0 ∧ (ls.getD l []).getD j 0 ≤ (ks.getD (j % ks.length) (.i .i64)).hi
def PSt.add (p : PSt) : Par → PSt
  | .one k => { p with ni := p.ni + 1, args := p.args ++ [k.sv (.v p.ni)], irng := p.irng ++ [(p.ni, k.lo, k.hi)] }
  | .agg ks => { p with ni := p.ni + ks.length, args := p.args ++ [.agg (ks.mapIdx fun i k => k.sv (.v (p.ni + i)))], irng := p.irng ++ ks.mapIdx fun i k => (p.ni + i, k.lo, k.hi) }
  | .slc ks =>
    let one := ks.length == 1
    { ni := p.ni + (if one then 2 else 3), nl := p.nl + 1, nb := p.nb + 1, args := p.args ++ [.slc p.nb (.c 0) (.v p.ni) (.v (p.ni + 1))],
      hp := p.hp ++ [(p.nb, .ro (oneKind ks) p.nl (.v (if one then p.ni else p.ni + 2)))],
      irng := p.irng ++ [(p.ni, 0, 9223372036854775807), (p.ni + 1, 0, 9223372036854775807)] ++ (if one then [] else [(p.ni + 2, (0 : Int), (9223372036854775807 : Int) * ks.length)]),
      pre := fun is ls => p.pre is ls ∧ slcPre (oneKind ks) ks.length p.ni p.nl is ls }
  | .nil => { p with args := p.args ++ [.nils] }
def lawSpec (f : FuncId) (ps : List Par) : FSpec :=
  let p := ps.foldl PSt.add {}
  { f := f, ni := p.ni, nl := p.nl, nb := p.nb, args := p.args, hp := p.hp, irng := p.irng, res := .b (.c 1), hp' := [], rel := ⟨p.pre, fun _ _ _ _ => True⟩ }
/-- With one more thing known of the numbers. -/
def FSpec.withPre (s : FSpec) (q : List Int → Prop) : FSpec := { s with rel := ⟨fun is ls => s.rel.pre is ls ∧ q is, s.rel.post⟩ }
end
end Go.Sx
