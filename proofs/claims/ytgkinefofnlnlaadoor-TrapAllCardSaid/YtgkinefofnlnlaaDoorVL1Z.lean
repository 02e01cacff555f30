/- What messuagelaw1's laws with a code known use. -/
import Derived.Test.YtgkinefofnlnlaaDoorVL1B
import Derived.Test.YtgkinefofnlnlaaDoorVSxLaw
set_option linter.unusedVariables false
open Go Go.Sx
namespace Go.Proofs.YtgkinefofnlnlaaDoor
set_option maxRecDepth 100000
theorem spec_then {P : Program} {ro : List (Addr × Value)} {s : Sx.Spec} (hs : s.Ok P ro) {f : List SV → SV → M SV}
    (hf : ∀ (Φ : Phi) (C : Ctx) (ρ : Env) (h : H) (w : World) (args : List SV) (sv : SV) (v : Value), SvIs ρ sv v → MSpec Φ C (f args sv) ρ h w fun sv' ρ' h' w' => w' = w ∧ SvIs ρ' sv' v) :
    (⟨s.f, fun args => s.run args >>= f args⟩ : Sx.Spec).Ok P ro := by
  intro Φ C ρ h w args k K hro hok r hd hk
  refine hs Φ C ρ h w args (fun sv h' => f args sv h' k) K hro hok r hd ?_
  intro sv ρ' h' v w' l r' hv d'
  obtain ⟨sv2, ρ2, h2, w2, l2, r2, d2, rfl, hv2⟩ := hf Φ C ρ' h' w' args sv v hv r' k d'
  exact hk sv2 ρ2 h2 v w2 (Env.le_trans l l2) r2 hv2 d2
theorem pin_ok {Φ : Phi} {C : Ctx} {ρ : Env} {h : H} {w : World} {ks : List (Nat × Int)} {args : List SV} {sv : SV} {v : Value} (hv : SvIs ρ sv v) :
    MSpec Φ C (L1.pin ks args sv) ρ h w fun sv' ρ' h' w' => w' = w ∧ SvIs ρ' sv' v := by
  unfold L1.pin
  split
  · rename_i i a
    obtain ⟨ha, rfl⟩ := hv.int
    split
    · rename_i q eq
      refine (need_spec ha (AtIs.c ρ q.2)).bind ?_
      rintro _ ρ1 h1 w1 l1 ⟨rfl, _, c⟩
      have c' : a.den ρ.is = q.2 := by simpa [cmpB] using c
      exact MSpec.ret ⟨rfl, by rw [c']; exact (AtIs.c ρ1 q.2).svi⟩
    · exact MSpec.ret ⟨rfl, hv⟩
  · exact MSpec.ret ⟨rfl, hv⟩
theorem cfgK_ok (ks : List (Nat × Int)) : (L1.cfgK Tryd.prog ks).Ok Tryd.prog := by
  refine ⟨?_, cfg_ok.meths⟩
  intro s hs
  rcases List.mem_append.1 hs with hs | hs
  · simp only [List.mem_cons, List.not_mem_nil, or_false] at hs
    rcases hs with rfl | rfl
    · exact FSpec.spec_ok begun_holds
    · exact spec_then (s := L1.code.spec) (FSpec.spec_ok code_holds) (f := L1.pin ks) fun Φ C ρ h w args sv v hv => pin_ok hv
  · exact cfg_ok.specs s hs
theorem one_list {l : List Int} (h : l.length = 1) : ∃ x, l = [x] := by
  match l, h with
  | [x], _ => exact ⟨x, rfl⟩
theorem kcases {k : Int} (h : 1 ≤ k) (h' : k ≤ 11) : k = 1 ∨ k = 2 ∨ k = 3 ∨ k = 4 ∨ k = 5 ∨ k = 6 ∨ k = 7 ∨ k = 8 ∨ k = 9 ∨ k = 10 ∨ k = 11 := by omega
theorem codeOf_range (n : Int) : 1 ≤ L1.codeOf n ∧ L1.codeOf n ≤ 11 := by
  unfold L1.codeOf
  have h1 := Int.tmod_lt_of_pos n (by decide : (0 : Int) < 11)
  have h2 : -11 < n.tmod 11 := by
    have := Int.lt_tmod_of_pos n (by decide : (0 : Int) < 11)
    omega
  rw [Int.tmod_eq_emod_of_nonneg (by omega)]
  omega
theorem two_list {l : List Int} (h : l.length = 2) : ∃ a b, l = [a, b] := by
  match l, h with
  | [a, b], _ => exact ⟨a, b, rfl⟩
theorem six_list {l : List Int} (h : l.length = 6) : ∃ a b c d e f, l = [a, b, c, d, e, f] := by
  match l, h with
  | [a, b, c, d, e, f], _ => exact ⟨a, b, c, d, e, f, rfl⟩
theorem seven {l : List Int} (h : l.length = 7) : ∃ a b c d e f g, l = [a, b, c, d, e, f, g] := by
  match l, h with
  | [a, b, c, d, e, f, g], _ => exact ⟨a, b, c, d, e, f, g, rfl⟩
theorem eight {l : List Int} (h : l.length = 8) : ∃ a b c d e f g i, l = [a, b, c, d, e, f, g, i] := by
  match l, h with
  | [a, b, c, d, e, f, g, i], _ => exact ⟨a, b, c, d, e, f, g, i, rfl⟩
theorem nine {l : List Int} (h : l.length = 9) : ∃ a b c d e f g i j, l = [a, b, c, d, e, f, g, i, j] := by
  match l, h with
  | [a, b, c, d, e, f, g, i, j], _ => exact ⟨a, b, c, d, e, f, g, i, j, rfl⟩
theorem all_one {v : Int} {Q : List Int → Prop} : (∀ xs : List Int, xs.length = 1 → xs = [v] → Q xs) ↔ Q [v] :=
  ⟨fun h => h [v] rfl rfl, fun h xs _ e => by subst e; exact h⟩
theorem all_nil {Q : List Int → Prop} : (∀ xs : List Int, xs.length = 0 → Q xs) ↔ Q [] :=
  ⟨fun h => h [] rfl, fun h xs e => by cases xs with | nil => exact h | cons x xs => cases e⟩
theorem all_nils {Q : List (List Int) → Prop} : (∀ xs : List (List Int), xs.length = 0 → Q xs) ↔ Q [] :=
  ⟨fun h => h [] rfl, fun h xs e => by cases xs with | nil => exact h | cons x xs => cases e⟩
theorem exe_withPre (s : FSpec) (q : List Int → Prop) : (s.withPre q).exe = s.exe := rfl
/-- A call of begun, a call of code: what they ask and tell. -/
theorem call_begun {Φ : Phi} {t : Tree} {is : List Int} {lls : List (List Int)} : (Tree.call 11 L1.begun.rel [] [] 0 0 t).den Φ is lls ↔ t.den Φ is lls := by
  simp only [Tree.den]
  constructor
  · intro h
    have := h.2 [] [] rfl rfl trivial
    simpa using this
  · intro h
    refine ⟨trivial, fun xs ys hx hy _ => ?_⟩
    obtain rfl := List.length_eq_zero_iff.1 hx
    obtain rfl := List.length_eq_zero_iff.1 hy
    simpa using h
theorem call_code {Φ : Phi} {t : Tree} {a : At} {is : List Int} {lls : List (List Int)} : (Tree.call 12 L1.code.rel [a] [] 1 0 t).den Φ is lls ↔ t.den Φ (is ++ [L1.codeOf (a.den is)]) lls := by
  simp only [Tree.den]
  constructor
  · intro h
    have := h.2 [L1.codeOf (a.den is)] [] rfl rfl rfl
    simpa using this
  · intro h
    refine ⟨trivial, fun xs ys hx hy e => ?_⟩
    have e' : xs = [L1.codeOf (a.den is)] := e
    subst e'
    obtain rfl := List.length_eq_zero_iff.1 hy
    simpa using h
abbrev k5 : List CK := [.i .u64, .i .u64, .i .u64, .i .u64, .i .u64]
theorem flat25 : flatT Tryd.prog 9 25 = some k5 := by kernel_rfl
theorem flat3 : flatT Tryd.prog 9 3 = some [.i .i64] := by kernel_rfl
theorem und22 : Tryd.prog.underlying 22 = some (.slice 3) := by kernel_rfl
theorem cells3 : Tryd.prog.cellsOf 3 = [CK.i .i64].length := by kernel_rfl
end Go.Proofs.YtgkinefofnlnlaaDoor
