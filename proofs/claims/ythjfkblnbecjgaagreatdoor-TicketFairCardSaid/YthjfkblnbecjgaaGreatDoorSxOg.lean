/- Appends are sound. -/
import Derived.Test.YthjfkblnbecjgaaGreatDoorSxOf
set_option linter.unusedVariables false
namespace Go.Sx
section
variable {Φ : Phi} {C : Ctx} {ρ : Env} {h : H} {w : World} {P : Program}

/-- What a destination is. -/
structure DstIs (ρ : Env) (d : Dst) (v : Value) : Prop where
  name : ∀ n, d.name = some n → n < ρ.bs.length
  len : AtIs ρ d.len (d.len.den ρ.is)
  cap : AtIs ρ d.cap (d.cap.den ρ.is)
  val : (v = .slice none 0 0 ∧ (d = .nil ∨ d.cap.den ρ.is = 0)) ∨ ∃ n, d.name = some n ∧ v = .slice (some ⟨(ρ.b n).1, (ρ.b n).2, none⟩) (d.len.den ρ.is).toNat (d.cap.den ρ.is).toNat
theorem dst_is (f : Facts C ρ h w) {x : SV} {v : Value} {d : Dst} (hx : SvIs ρ x v) (e : dstOf h x = some d) : DstIs ρ d v := by
  unfold dstOf at e
  split at e
  · cases e
    obtain rfl := hx.nils
    exact ⟨(fun n hn => by cases hn), ⟨rfl, rfl⟩, ⟨rfl, rfl⟩, .inl ⟨rfl, .inl rfl⟩⟩
  · rename_i n o len cap
    split at e
    · rename_i hz
      cases e
      obtain ⟨hn, ho, hl, hc, rfl⟩ := hx.slc
      have h0 := zeroAt_ok f hz
      refine ⟨(fun m hm => by cases hm; exact hn), hl, hc, .inr ⟨n, rfl, ?_⟩⟩
      simp [Env.at, h0, Dst.len, Dst.cap]
    · cases e
  · rename_i n len cap
    cases e
    obtain ⟨hn, hl, hc, rfl⟩ := hx.vec
    refine ⟨(fun m hm => by cases hm; exact hn), hl, hc, ?_⟩
    by_cases hz : cap.den ρ.is = 0
    · left; simp [hz, Dst.cap]
    · right; exact ⟨n, rfl, by simp [hz, Dst.len, Dst.cap]⟩
  · cases e
theorem DstIs.mono {ρ' : Env} {d : Dst} {v : Value} (hd : DstIs ρ d v) (l : ρ.le ρ') : DstIs ρ' d v := by
  have e1 : d.len.den ρ'.is = d.len.den ρ.is := (hd.len.mono l).2
  have e2 : d.cap.den ρ'.is = d.cap.den ρ.is := (hd.cap.mono l).2
  refine ⟨fun n hn => Nat.lt_of_lt_of_le (hd.name n hn) (Env.le_len l).2.2, by rw [e1]; exact hd.len.mono l, by rw [e2]; exact hd.cap.mono l, ?_⟩
  rcases hd.val with h1 | ⟨n, hn, h1⟩
  · left; rw [e2]; exact h1
  · right
    refine ⟨n, hn, ?_⟩
    have : ρ'.b n = ρ.b n := by obtain ⟨τ, rfl⟩ := l; exact Env.b_app (hd.name n hn)
    rw [h1, e1, e2, this]

/-- The step to the new memory. -/
theorem growTo_rep (r : RepH C ρ h w) {d : Dst} {v : Value} (hd : DstIs ρ d v) {e : TypeId} {s : Nat} {g cap need : Nat} {xs : List Value} {w' : World} (G : Grown w w' e s v g cap need xs)
    (hold : ∀ n, d.name = some n → d.cap.den ρ.is ≠ 0 → ∃ b, h.blk n = some b ∧ (ρ.b n).1 ∈ b.phys ρ n)
    (hcapv : ∀ n, d.name = some n → 0 ≤ d.cap.den ρ.is)
    {b : Blk} (hph : b.phys (ρ.app ⟨[], [], [(g, 0)]⟩) h.nb = [g]) (hin : b.inB ρ.is.length ρ.ls.length ρ.bs.length = true) (hb : b.holds C (ρ.app ⟨[], [], [(g, 0)]⟩) w' h.nb) :
    RepH C (ρ.app ⟨[], [], [(g, 0)]⟩) { h.swap d.name.toList [(h.nb, b)] with nb := h.nb + 1 } w' := by
  have hlent : ∀ p, Value.lentBlock v = some p → ∃ n, d.name = some n ∧ p = (ρ.b n).1 ∧ ∃ b, h.blk n = some b ∧ p ∈ b.phys ρ n := by
    intro p hp
    unfold Value.lentBlock at hp
    split at hp
    · cases hp
    · rename_i hc
      rcases hd.val with ⟨rfl, _⟩ | ⟨n, hn, rfl⟩
      · simp [Value.ownBlock] at hp
      · simp only [capOf] at hc
        simp only [Value.ownBlock, Option.some.injEq] at hp
        obtain ⟨b, eb, hb⟩ := hold n hn (by omega)
        exact ⟨n, hn, hp.symm, b, eb, by rw [← hp]; exact hb⟩
  have hmine : C.mine g := by
    rcases G.place with hg | hg
    · exact .inl (Nat.le_trans r.frame.size hg)
    · obtain ⟨n, hn, rfl, b0, eb, hp⟩ := hlent g hg
      exact (r.fact.heap _ (blk_mem eb)).mine _ hp
  have hone : ownPhys (ρ.app ⟨[], [], [(g, 0)]⟩) [(h.nb, b)] = [g] := by simp only [ownPhys, List.flatMap_cons, List.flatMap_nil, List.append_nil, hph]
  have := r.change (w' := w') ⟨[], [], [(g, 0)]⟩ (drop := d.name.toList) (news := [(h.nb, b)]) (ni := h.ni) (nl := h.nl) (nb := h.nb + 1) rfl rfl rfl G.by_.size
    (fun p hp hno => G.by_.block p hp fun heq => by
      obtain ⟨n, hn, rfl, b0, eb, hpb⟩ := hlent p heq.symm
      exact hno _ (blk_mem eb) (by simp [hn]) hpb)
    G.by_.os G.by_.output
    (fun q hq => by
      obtain rfl := List.mem_singleton.1 hq
      have L := Env.le_len (Env.le_app ρ ⟨[], [], [(g, 0)]⟩)
      refine ⟨by simp [Env.app, r.nb], Blk.inB_mono L.1 L.2.1 L.2.2 hin, fun p hp => ?_, hb⟩
      simp only [hph] at hp
      rw [List.mem_singleton.1 hp]
      exact hmine)
    (by rw [hone]; simp)
    (fun p hp => by
      rw [hone] at hp
      rw [List.mem_singleton.1 hp]
      rcases G.place with hg | hg
      · exact .inl hg
      · obtain ⟨n, hn, rfl, b0, eb, hpb⟩ := hlent g hg
        exact .inr ⟨_, blk_mem eb, by simp [hn], hpb⟩)
  exact this

/-- What 'append' is to come to. -/
def AppDoes (P : Program) (t : TypeId) (v u : Value) (w : World) : SV → Env → H → World → Prop := fun sv ρ' _ w' => ∃ z, SvIs ρ' sv z ∧ ∀ ty, (Builtin.append_ #[t, t] ty #[v, u]).run P w = .ok z w'

theorem slc_out {nb g : Nat} {need cap : At} {zn zc : Int} (hnb : ρ.bs.length = nb) (hn : AtIs ρ need zn) (hc : AtIs ρ cap zc) :
    SvIs (ρ.app ⟨[], [], [(g, 0)]⟩) (.slc nb (.c 0) need cap) (.slice (some ⟨g, 0, none⟩) zn.toNat zc.toNat) := by
  have l := Env.le_app ρ ⟨[], [], [(g, 0)]⟩
  refine ⟨?_, ?_⟩
  · simp only [SV.ok, Bool.and_eq_true, decide_eq_true_eq]
    exact ⟨by simp [Env.app, hnb], rfl, (hn.mono l).1, (hc.mono l).1⟩
  · have hb : (ρ.app ⟨[], [], [(g, 0)]⟩).b nb = (g, 0) := by rw [← hnb]; exact pushB_at ρ g
    simp only [SV.den, Env.at, hb, (hn.mono l).2, (hc.mono l).2]
    simp

theorem elemInfo {elem : TypeId} {s : Nat} {zs : List SV} {inf : TypeInfo} (es : sizeT P elem = some s) (ez : zeroCellsT P elem = some zs) (ei : P.info? elem = some inf) (hz : zs.length = s) :
    inf.size = s ∧ ∃ z, inf.zero = some z ∧ z.cells.size = inf.size := by
  have h1 : inf.size = s := by unfold sizeT at es; rw [ei] at es; simpa using es
  obtain ⟨z, e2, h2, h3⟩ := zeroCellsT_is ez default
  refine ⟨h1, z, ?_, ?_⟩
  · unfold zeroT at e2; rw [ei] at e2; simpa using e2
  · rw [h3 Env.nil]; simp [SV.dens_eq, hz, h1]

theorem HasCells.whole {p n cap : Nat} {vs : List Value} {sz : Int} {el : TypeId} {s k : Nat} (hc : HasCells w p vs sz el) (hk : k = n * s) (hle : k ≤ vs.length) (hn : n ≤ cap) (hcap : cap ≤ 9223372036854775807) (hsz : sz = ((cap * s : Nat) : Int)) :
    Whole w el s (.slice (some ⟨p, 0, none⟩) n cap) n (vs.take k) := by
  obtain ⟨rest, hr, hl⟩ := hc
  refine .inr (.inr ⟨p, cap, _, rfl, hr, hn, hcap, ?_, ?_, ?_⟩)
  · rw [hsz] at hl
    have : vs.length + rest.length = cap * s := by exact_mod_cast hl
    simpa using this
  · subst hk
    simp [List.take_append_of_le_length hle]
  · subst hk
    rw [List.length_take]; omega

theorem take_cells {ks : List CK} {L : List Int} {k : Nat} : (cellsOf ks L).take k = cellsOf ks (L.take k) := cellsOf_take.symm
theorem cellsOf_app {ks : List CK} {L M : List Int} (h : ks.length = 1 ∨ L.length % ks.length = 0) : cellsOf ks (L ++ M) = cellsOf ks L ++ cellsOf ks M := by
  apply List.ext_getElem?
  intro i
  by_cases hi : i < L.length
  · rw [List.getElem?_append_left (by rw [cellsOf_len]; exact hi)]
    simp [cellsOf, List.getElem?_append_left hi]
  · rw [List.getElem?_append_right (by rw [cellsOf_len]; omega), cellsOf_len]
    simp only [cellsOf, List.getElem?_mapIdx, List.getElem?_append_right (Nat.le_of_not_lt hi)]
    congr 1
    funext n
    unfold cellAt
    rcases h with h | h
    · simp [h, Nat.mod_one]
    · have : i % ks.length = (i - L.length) % ks.length := by
        conv => lhs; rw [show i = L.length + (i - L.length) by omega]
        rw [Nat.add_mod, h, Nat.zero_add, Nat.mod_mod]
      rw [this]
end
end Go.Sx
