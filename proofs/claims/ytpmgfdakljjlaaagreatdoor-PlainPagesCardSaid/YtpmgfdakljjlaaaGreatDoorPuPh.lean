/- PlainPages: the pages that were mapped, and the table. -/
import Derived.Test.YtpmgfdakljjlaaaGreatDoorPuPg
set_option linter.unusedVariables false
set_option linter.constructorNameAsVariable false
namespace Go.Sx
structure PgInv (H L : List Int) : Prop where
  ok : PgOk L
  len : H.length = 16
  has : ∀ p : Nat, p < 7 → (H.getD p 0 = 0 ↔ tG L p 2 = 0)
theorem PgInv.start {H L : List Int} (hH : H = List.replicate 16 0) (hL : L = [0, 0, 0, 0, 0, 0, 0, 0, 0, 0, 0, 0, 0, 0, 0, 0, 0, 0, 0, 0, 0, 0, 0, 1]) : PgInv H L := by
  subst hH
  subst hL
  have z : ∀ p : Nat, p < 7 → tG [0, 0, 0, 0, 0, 0, 0, 0, 0, 0, 0, 0, 0, 0, 0, 0, 0, 0, 0, 0, 0, 0, 0, 1] p 2 = 0 := by decide
  refine ⟨⟨rfl, rfl, rfl, rfl, fun p hp h => absurd (z p hp) h⟩, rfl, fun p hp => ⟨fun _ => z p hp, fun _ => ?_⟩⟩
  rw [List.getD_eq_getElem?_getD, List.getElem?_replicate]; split <;> rfl
theorem PgInv.next {H L : List Int} (h : PgInv H L) {v : Int} (h0 : 0 ≤ v) (h7 : v < 7) :
    (insE L v 0 3 1 = 0 ↔ H.getD v.toNat 0 = 0) ∧ PgInv (H.set v.toNat 1) (insL L v 0 3 1) := by
  obtain ⟨p, rfl⟩ : ∃ p : Nat, v = p := ⟨v.toNat, by omega⟩
  have hp : p < 7 := by omega
  obtain ⟨e1, e2, e3, e4⟩ := h.ok.put hp
  rw [Int.toNat_natCast]
  refine ⟨?_, e2, by rw [List.length_set]; exact h.len, fun q hq => ?_⟩
  · rw [e1, h.has p hp]
    by_cases c : tG L p 2 = 0
    · rw [if_pos c]; exact ⟨fun _ => c, fun _ => rfl⟩
    · rw [if_neg c]; exact ⟨fun k => absurd k (by decide), fun k => absurd k c⟩
  · have l := h.len
    by_cases hqp : q = p
    · subst hqp
      have : (H.set q 1).getD q 0 = 1 := by rw [List.getD_eq_getElem?_getD, List.getElem?_set_self (by omega)]; rfl
      rw [this]
      exact ⟨fun k => absurd k (by decide), fun k => absurd k e3⟩
    · have : (H.set p 1).getD q 0 = H.getD q 0 := by rw [List.getD_eq_getElem?_getD, List.getElem?_set_ne (fun c => hqp c.symm), List.getD_eq_getElem?_getD]
      rw [this, e4 q hq hqp]
      exact h.has q hq
/-- What the law asks of a page: mapped exactly if it was not before. -/
theorem PgInv.eq {H L : List Int} (h : PgInv H L) {v e : Int} (h0 : 0 ≤ v) (h7 : v < 7) (he : e = insE L v 0 3 1) {a b c d : Int} (ha : a = b2i (e == 0)) (hb : b = H.getD v.toNat 0) (hc : c = b2i (a == 0)) (hd : d = b2i (b == 0)) : c ≠ d := by
  have k := (h.next h0 h7).1
  rw [← he, ← hb] at k
  by_cases z : e = 0
  · have z' := k.1 z
    rw [hc, hd, ha, z, z']; decide
  · have z' : b ≠ 0 := fun z' => z (k.2 z')
    have e1 : (e == 0) = false := by simpa using z
    have e2 : (b == 0) = false := by simpa using z'
    rw [hc, hd, ha, e1, e2]; decide
theorem PgGone.at {L : List Int} (h : PgGone L) {p : Int} (h0 : 0 ≤ p) (h7 : p < 7) {a b c v : Int} (q : [a, b, c, v] = [atV L p 0, atV L p 1, atV L p 2, b2i (atOk L p)]) : v = 0 := by
  simp only [List.cons.injEq, and_true] at q
  obtain ⟨n, rfl⟩ : ∃ n : Nat, p = n := ⟨p.toNat, by omega⟩
  rw [q.2.2.2]
  unfold atOk
  rw [h.none n (by omega)]
  simp [b2i]
theorem PgGone.at7 {L : List Int} (h : PgGone L) {a b c v : Int} (q : [a, b, c, v] = [atV L 7 0, atV L 7 1, atV L 7 2, b2i (atOk L 7)]) : v ≠ 0 := by
  simp only [List.cons.injEq, and_true] at q
  rw [q.2.2.2]
  have : tG L 7 2 = 1 := h.p72
  unfold atOk
  rw [this]
  decide
end Go.Sx
