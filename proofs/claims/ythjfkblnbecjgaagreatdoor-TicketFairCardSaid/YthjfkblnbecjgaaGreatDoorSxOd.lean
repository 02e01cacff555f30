/- More operations: bytes as a string, slices with room, appends where there is room. -/
import Derived.Test.YthjfkblnbecjgaaGreatDoorSxOc
import Derived.Laws.BytesString
import Derived.Laws.Append
set_option linter.unusedVariables false
namespace Go.Sx

def byteS : SV → Option Int
  | .i .u8 (.c b) => some b
  | _ => none
def bytesS : List SV → Option (List Int)
  | [] => some []
  | x :: xs => match byteS x, bytesS xs with
    | some b, some bs => some (b :: bs)
    | _, _ => none
def strOf (ns : List Int) : ByteArray := ns.foldl (fun r n => r.push (UInt8.ofNat n.toNat)) ByteArray.empty
def bytesM (P : Program) (src dst : TypeId) (n : Nat) (o len : At) : M SV :=
  match P.underlying src, P.underlying dst, len with
  | some (.slice e), some .string, .c m => (match P.underlying e with
    | some (.int .u8) => if 0 ≤ m then (do
        need .geq o (.c 0)
        let xs ← rdCells n o 0 m.toNat
        match bytesS xs with
        | some bs => pure (.raw (.string (strOf bs)))
        | none => M.no 340) else M.no 341
    | _ => M.no 342)
  | _, _, _ => M.no 343
def makeRoomM (P : Program) (t : TypeId) (a b : Int) : M SV :=
  match P.underlying t with
  | some (.slice elem) => (match sizeT P elem, zeroCellsT P elem, P.info? elem with
    | some s, some zs, some inf =>
      if 0 ≤ a ∧ a ≤ b ∧ b ≤ 1000000 ∧ inf.bytes ≤ 1000 ∧ zs.length = s ∧ 0 < b.toNat * s then (do
        let p ← newBlk (repeatZ zs b.toNat) elem
        match p with
        | .ptr q o => pure (.slc q o (.c a) (.c b))
        | _ => M.no 344) else M.no 345
    | _, _, _ => M.no 346)
  | _ => M.no 347
def appendM (P : Program) (t t' : TypeId) (x y : SV) : M SV :=
  match P.underlying t, x, y with
  | some (.slice elem), .slc n o (.c len) (.c cap), .slc m p (.c k) _ => (match sizeT P elem with
    | some s => if t = t' ∧ 0 ≤ len ∧ 0 ≤ k ∧ len + k ≤ cap then (do
        need .geq p (.c 0)
        need .geq o (.c 0)
        let xs ← rdCells m p 0 (k.toNat * s)
        let o' ← mkI (.add o (.c (len.toNat * s : Nat)))
        wrCells n o' 0 xs
        pure (.slc n o (.c (len + k)) (.c cap))) else M.no 350
    | none => M.no 351)
  | _, _, _ => M.no 352
def constI : Option SV → Option Int
  | some (.i _ (.c n)) => some n
  | _ => none
def opZ (P : Program) (ro : List (Addr × Value)) (ev : Operand → Option SV) (o : Oper) : M SV :=
  match o.op with
  | .convert src dst x => (match ev x with
    | some (.slc n p len cap) => bytesM P src dst n p len
    | _ => opY P ro ev o)
  | .makeSlice t l c => (match constI (ev l), constI (ev c) with
    | some a, some b => if a = b then opY P ro ev o else makeRoomM P t a b
    | _, _ => opY P ro ev o)
  | .call c => (match c.callee, c.args.toList, c.argTypes.toList with
    | .builtin .append, [x, y], [t, t'] => with1 (ev x) fun u => with1 (ev y) fun v => appendM P t t' u v
    | _, _, _ => opY P ro ev o)
  | _ => opY P ro ev o

section
variable {Φ : Phi} {C : Ctx} {ρ : Env} {h : H} {w : World} {P : Program}

theorem bytesS_den {ρ : Env} : ∀ {xs : List SV} {bs : List Int}, bytesS xs = some bs → SV.dens ρ xs = bs.map (Value.int .u8)
  | [], bs, e => by cases e; rfl
  | x :: xs, bs, e => by
    unfold bytesS at e
    split at e
    · rename_i b bs' hb hbs
      cases e
      unfold byteS at hb
      split at hb
      · cases hb
        simp only [SV.dens, SV.den, List.map_cons, At.den_c, bytesS_den hbs]
      · cases hb
    · cases e

theorem bytesM_spec {src dst : TypeId} {n : Nat} {o len cap : At} {v : Value} (hx : SvIs ρ (.slc n o len cap) v) : MSpec Φ C (bytesM P src dst n o len) ρ h w (Does P (convert src dst v) w) := by
  obtain ⟨hn, ho, hl, _, rfl⟩ := hx.slc
  unfold bytesM
  split
  · rename_i e m eu ed
    split
    · rename_i ee
      split
      · rename_i hm
        refine (need_spec ho (AtIs.c ρ 0)).bind ?_
        rintro _ ρ1 h1 w1 l1 ⟨rfl, hp1, c1⟩
        simp only [cmpB, decide_eq_true_eq] at c1
        refine (rdCells_spec (Nat.lt_of_lt_of_le hn (Env.le_len l1).2.2) (ho.mono l1) c1 0 m.toNat).bind ?_
        rintro xs ρ2 h2 w2 l2 ⟨rfl, hp2, hok, hlen, hget⟩
        split
        · rename_i bs hbs
          refine MSpec.ret ⟨_, ⟨rfl, rfl⟩, ?_⟩
          have hd := bytesS_den (ρ := ρ2) hbs
          have hat : ρ1.at n o = ρ.at n o := by obtain ⟨τ, rfl⟩ := l1; exact Env.at_app hn ho.1
          have hload := run_loadCells_list (P := P) w2 (ρ.at n o) (SV.dens ρ2 xs) (fun j v hj => by have := hget j v hj; rw [hat, Nat.zero_add] at this; exact this)
          have hll : (SV.dens ρ2 xs).length = m.toNat := by rw [SV.dens_eq]; simpa using hlen
          rw [hll, hd] at hload
          have := run_bytesToString (P := P) w2 (ρ.at n o) m.toNat (cap.den ρ.is).toNat bs hload
          simp only [convert, Sem.run_bind, run_underlying eu, run_underlying ed, Result.andThen_ok, run_underlying ee, At.den_c, this]
          rfl
        · exact MSpec.no
      · exact MSpec.no
    · exact MSpec.no
  · exact MSpec.no

theorem makeRoom_run {t elem : TypeId} {k k' : IntKind} {a n s : Nat} {inf : TypeInfo} {z : Value} (eu : P.underlying t = some (.slice elem)) (es : sizeT P elem = some s) (ez : zeroT P elem = some z)
    (ei : P.info? elem = some inf) (hb : inf.bytes ≤ 1000) (hn : n ≤ 1000000) (han : a ≤ n) (hpos : 0 < n * s) :
    (Instr.makeSlice t (.int k a) (.int k' n)).run P w = .ok (.slice (some ⟨w.heap.size, 0, none⟩) a n) (w.alloc (.cells ((Array.range (n * s)).map (fun i => z.cells[i % z.cells.size]!)) elem (0, 0))) := by
  have hw : IntKind.i64.wrap (n : Int) = n := wrap_small (by omega) (by omega) rfl
  have hw' : IntKind.i64.wrap (a : Int) = a := wrap_small (by omega) (by omega) rfl
  have h0 : ¬ ((n : Int) < 0) := by omega
  have h0' : ¬ ((a : Int) < 0) := by omega
  have h2 : ¬ ((inf.bytes : Int) * (n : Int) > 2 ^ 48) := by
    have : (inf.bytes : Int) * (n : Int) ≤ 1000 * 1000000 := Int.mul_le_mul (by omega) (by omega) (by omega) (by omega)
    omega
  have h2' : ¬ ((inf.bytes : Int) * (a : Int) > 2 ^ 48) := by
    have : (inf.bytes : Int) * (a : Int) ≤ 1000 * 1000000 := Int.mul_le_mul (by omega) (by omega) (by omega) (by omega)
    omega
  have h3 : ¬ ((a : Int) > (n : Int)) := by omega
  have hns : ¬ n * s = 0 := by omega
  simp only [Instr.makeSlice, Sem.run_bind, run_underlying eu, Result.andThen_ok, asInt, asIntOf, Sem.run_pure, typeInfo, run_program, ei, hw, hw']
  simp only [h0, h0', h2, h2', h3, decide_false, Bool.or_self, Bool.false_eq_true, if_false, Sem.run_pure, Result.andThen_ok, Sem.run_bind, run_askRoom, run_sizeOf' es, Int.toNat_natCast, hns, run_zeroValue' ez]
  simp [newRow]
theorem makeRoomM_spec {t : TypeId} {a b : Int} {k k' : IntKind} : MSpec Φ C (makeRoomM P t a b) ρ h w (Does P (Instr.makeSlice t (.int k a) (.int k' b)) w) := by
  unfold makeRoomM
  split
  · rename_i elem eu
    split
    · rename_i s zs inf es ezs ei
      obtain ⟨z, ez, hzo, hzc⟩ := zeroCellsT_is ezs w
      split
      · rename_i hc
        obtain ⟨ha, hab, hb, hbytes, hz, hpos⟩ := hc
        obtain ⟨x, hx⟩ := Int.eq_ofNat_of_zero_le ha
        obtain ⟨y, hy⟩ := Int.eq_ofNat_of_zero_le (by omega : 0 ≤ b)
        subst hx; subst hy
        simp only [Int.toNat_natCast] at hpos ⊢
        have hs0 : 0 < s := by
          rcases Nat.eq_zero_or_pos s with h0 | h0
          · subst h0; omega
          · exact h0
        refine (newBlk_spec (repeatZ_ok (hzo ρ) y)).bind ?_
        rintro p ρ1 h1 w1 l1 ⟨hp1, rfl⟩
        split
        · rename_i q o
          obtain ⟨hq, ho, hat⟩ := hp1.ptr
          have hat' : ρ1.at q o = ⟨w.heap.size, 0, none⟩ := by simpa using hat.symm
          refine MSpec.ret ⟨_, ⟨by simp only [SV.ok, hq, ho.1, decide_true]; rfl, rfl⟩, ?_⟩
          rw [makeRoom_run eu es ez ei hbytes (by omega) (by omega) hpos, hzc ρ, repeatZ_dens hz hs0]
          simp [SV.den, hat']
        · exact MSpec.no
      · exact MSpec.no
    · exact MSpec.no
  · exact MSpec.no

theorem appendM_spec {t t' ty : TypeId} {x y : SV} {u v : Value} (hx : SvIs ρ x u) (hy : SvIs ρ y v) : MSpec Φ C (appendM P t t' x y) ρ h w (Does P (Builtin.append_ #[t, t'] ty #[u, v]) w) := by
  unfold appendM
  split
  · rename_i elem n o len cap m p k c eu
    obtain ⟨hn, ho, _, _, rfl⟩ := hx.slc
    obtain ⟨hm, hp, _, _, rfl⟩ := hy.slc
    split
    · rename_i s es
      split
      · rename_i hc
        obtain ⟨rfl, h0, hk, hroom⟩ := hc
        refine (need_spec hp (AtIs.c ρ 0)).bind ?_
        rintro _ ρ1 h1 w1 l1 ⟨rfl, hp1, c1⟩
        refine (need_spec (ho.mono l1) (AtIs.c ρ1 0)).bind ?_
        rintro _ ρ2 h2 w2 l2 ⟨rfl, hp2, c2⟩
        simp only [cmpB, decide_eq_true_eq] at c1 c2
        have L2 := Env.le_trans l1 l2
        refine (rdCells_spec (Nat.lt_of_lt_of_le hm (Env.le_len L2).2.2) (hp.mono L2) c1 0 (k.toNat * s)).bind ?_
        rintro xs ρ3 h3 w3 l3 ⟨rfl, hp3, hok, hlen, hget⟩
        have L3 := Env.le_trans L2 l3
        refine (mkI_ok (okB2 (ho.mono L3).1 rfl (.add o (.c (len.toNat * s : Nat))) rfl rfl)).bind ?_
        rintro o' ρ4 h4 w4 l4 ⟨rfl, hp4, ho'⟩
        simp only [IOp.den, (ho.mono L3).2, At.den_c] at ho'
        have L4 := Env.le_trans L3 l4
        have hok4 : SV.oks ρ4.is.length ρ4.bs.length xs = true := SV.oks_mono (Env.le_len l4).1 (Env.le_len l4).2.2 xs hok
        refine (wrCells_spec (P := P) (Nat.lt_of_lt_of_le hn (Env.le_len L4).2.2) ho' (by omega) xs hok4 0).bind ?_
        rintro _ ρ5 h5 w5 l5 hst
        have L5 := Env.le_trans L4 l5
        have hat : ∀ {ρ' : Env}, ρ.le ρ' → ρ'.at n o = ρ.at n o := fun {ρ'} l => by obtain ⟨τ, rfl⟩ := l; exact Env.at_app hn ho.1
        have hatp : ρ2.at m p = ρ.at m p := by obtain ⟨τ, rfl⟩ := L2; exact Env.at_app hm hp.1
        have hdens : SV.dens ρ4 xs = SV.dens ρ3 xs := by obtain ⟨τ, rfl⟩ := l4; exact SV.dens_app xs hok
        refine MSpec.ret ⟨_, ⟨?_, rfl⟩, ?_⟩
        · simp only [SV.ok, Bool.and_eq_true, decide_eq_true_eq]
          exact ⟨Nat.lt_of_lt_of_le hn (Env.le_len L5).2.2, (ho.mono L5).1, rfl, rfl⟩
        · have ei : ∃ i, P.info? elem = some i ∧ i.size = s := by
            unfold sizeT at es
            cases hi : P.info? elem with
            | none => rw [hi] at es; cases es
            | some i => rw [hi] at es; exact ⟨i, rfl, by simpa using es⟩
          obtain ⟨i, hi, his⟩ := ei
          have hll : (SV.dens ρ3 xs).length = k.toNat * i.size := by rw [SV.dens_eq, his]; simpa using hlen
          have hf := run_firstCells_some (P := P) w4 i.size k.toNat (ρ.at m p) k.toNat (c.den ρ.is).toNat (SV.dens ρ3 xs) hll (fun j v hj => by have := hget j v hj; rw [hatp, Nat.zero_add] at this; exact this)
          have hroom' : len.toNat + k.toNat ≤ cap.toNat := by omega
          have hadd : ρ4.at n o' = (ρ.at n o).add (len.toNat * i.size) := by
            have e1 : o'.den ρ4.is = o.den ρ.is + ((len.toNat * s : Nat) : Int) := ho'.2
            have e2 : ρ4.b n = ρ.b n := by obtain ⟨τ, rfl⟩ := L4; exact Env.b_app hn
            have e3 : (o.den ρ.is + ((len.toNat * s : Nat) : Int)).toNat = (o.den ρ.is).toNat + len.toNat * s := by omega
            simp only [Env.at, e1, e2, e3, Addr.add, his]
            by_cases hz : len.toNat * s = 0 <;> simp [hz, Nat.add_assoc]
          rw [hdens, hadd] at hst
          have e4 : (len + k).toNat = len.toNat + k.toNat := by omega
          simp [Builtin.append_, run_underlying eu, sizeOf, typeInfo, hi, Builtin.lenOf, hroom', hf, hst, SV.den, hat L5, e4]
      · exact MSpec.no
    · exact MSpec.no
  · exact MSpec.no

theorem constI_is {sl : Slots} {a : Act} (r : RepS ρ sl a) {x : Operand} {n : Int} (e : constI (evalO sl x) = some n) : ∃ k, a.eval x = .int k n := by
  unfold constI at e
  split at e
  · rename_i k m hx
    cases e
    obtain ⟨_, hv⟩ := (evalO_is r hx).int
    exact ⟨k, by simpa using hv⟩
  · cases e
theorem opZ_spec {ro : List (Addr × Value)} (hro : RoOk C ro) {sl : Slots} {a : Act} (r : RepS ρ sl a) (o : Oper) :
    MSpec Φ C (opZ P ro (evalO sl) o) ρ h w (OpDoes P a.eval o w) := by
  obtain ⟨dst, op, type, pos, after, guard⟩ := o
  unfold opZ
  split
  · rename_i src dstt x ho
    simp only at ho
    subst ho
    split
    · rename_i n p len cap hx
      refine (bytesM_spec (P := P) (evalO_is r hx)).mono ?_
      rintro sv ρ1 h1 w1 l ⟨v, hv, hr⟩
      exact ⟨v, hv, .inl (by simp [execOp, hr])⟩
    · exact opY_spec hro r _
  · rename_i t l c ho
    simp only at ho
    subst ho
    split
    · rename_i x y hx hy
      split
      · exact opY_spec hro r _
      · obtain ⟨k, e1⟩ := constI_is r hx
        obtain ⟨k', e2⟩ := constI_is r hy
        refine (makeRoomM_spec (P := P) (k := k) (k' := k')).mono ?_
        rintro sv ρ1 h1 w1 l ⟨v, hv, hr⟩
        exact ⟨v, hv, .inl (by simp [execOp, e1, e2, hr])⟩
    · exact opY_spec hro r _
  · rename_i c ho
    simp only at ho
    subst ho
    split
    · rename_i x y t t' hc ha ht
      obtain ⟨callee, args, argTypes⟩ := c
      simp only at hc ha ht
      subst hc
      have ea : args = #[x, y] := Array.ext' (by simpa using ha)
      have et : argTypes = #[t, t'] := Array.ext' (by simpa using ht)
      subst ea; subst et
      refine with1_spec (fun z hz => evalO_is r hz) fun u hu => with1_spec (fun z hz => evalO_is r hz) fun v hv => ?_
      refine (appendM_spec (P := P) (ty := type) hu hv).mono ?_
      rintro sv ρ1 h1 w1 l ⟨z, hz, hr⟩
      exact ⟨z, hz, .inl (by simp [execOp, resolve, invoke, builtin, hr])⟩
    · exact opY_spec hro r _
  · exact opY_spec hro r _
end
end Go.Sx
