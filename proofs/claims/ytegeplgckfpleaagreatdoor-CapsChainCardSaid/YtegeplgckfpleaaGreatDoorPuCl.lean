/- Two trees that grow: a fan, a chain; what goes of them. -/
import Derived.Test.YtegeplgckfpleaaGreatDoorPuC
set_option linter.unusedVariables false
namespace Go.Sx
abbrev z64 : List Int := [0, 0, 0, 0, 0, 0, 0, 0, 0, 0, 0, 0, 0, 0, 0, 0, 0, 0, 0, 0, 0, 0, 0, 0, 0, 0, 0, 0, 0, 0, 0, 0, 0, 0, 0, 0, 0, 0, 0, 0, 0, 0, 0, 0, 0, 0, 0, 0, 0, 0, 0, 0, 0, 0, 0, 0, 0, 0, 0, 0, 0, 0, 0, 0]
def fanT : Nat → List Int
  | 0 => rootL 2 z64 1 7 4
  | i + 1 => derL 2 (fanT i) 1 7 0 (i : Int) 1
def fanGo (n a : Nat) : List Int := emptyC (fanT n) (dropL 2 (fanT n) 0 a)
def fanEnd (n a : Nat) : List Int := emptyC (fanGo n a) (belowL 2 (fanGo n a) 1 7)
def fanOk (n a : Nat) : Bool :=
  cvB 2 (fanT n) && (decide (lookE 2 (fanT n) 0 a = 0) && (decide (dropL 2 (fanT n) 0 a = [0, (a : Int)]) && (cvB 2 (fanGo n a) && (decide ((belowL 2 (fanGo n a) 1 7).length = 2 * (n - 1)) &&
  (decide (lookE 2 (fanGo n a) 1 7 = 0) && (capOk 2 (fanEnd n a) 1 7 && decide ((ofL 2 (fanEnd n a) 4).length = 2)))))))
theorem fan_der : ∀ i, i < 7 → derE 2 (fanT i) 1 7 0 (i : Int) 1 = 0 := by decide +kernel
theorem fan_ok : ∀ n, n < 8 → ∀ a, a < n → fanOk n a = true := by decide +kernel
structure FanSt (n a : Nat) : Prop where
  cv : CV 2 (fanT n)
  look : lookE 2 (fanT n) 0 a = 0
  drop : dropL 2 (fanT n) 0 a = [0, (a : Int)]
  cv2 : CV 2 (fanGo n a)
  below : (belowL 2 (fanGo n a) 1 7).length = 2 * (n - 1)
  look2 : lookE 2 (fanGo n a) 1 7 = 0
  cap : capOk 2 (fanEnd n a) 1 7 = true
  of : (ofL 2 (fanEnd n a) 4).length = 2
theorem fan_st {n a : Nat} (hn : n < 8) (ha : a < n) : FanSt n a := by
  have h := fan_ok n hn a ha
  simp only [fanOk, Bool.and_eq_true, decide_eq_true_eq] at h
  obtain ⟨h1, h2, h3, h4, h5, h6, h7, h8⟩ := h
  exact ⟨cvB_ok h1, h2, h3, cvB_ok h4, h5, h6, h7, h8⟩
def chT : Nat → List Int
  | 0 => rootL 2 z64 0 0 3
  | k + 1 => derL 2 (chT k) ((k : Int).tmod 2) (k : Int) (((k : Int) + 1).tmod 2) ((k : Int) + 1) 3
def chRev (n a : Nat) : List Int := emptyC (chT n) (belowL 2 (chT n) ((a : Int).tmod 2) a)
def chDrop (n a : Nat) : List Int := emptyC (chT n) (dropL 2 (chT n) ((a : Int).tmod 2) a)
/-- n: derivations; a: the place. -/
def chOk (n a : Nat) : Bool :=
  cvB 2 (chT n) && (decide ((belowL 2 (chT n) 0 0).length = 2 * n) && (decide ((ofL 2 (chT n) 3).length = 2 * (n + 1)) && (decide (lookE 2 (chT n) ((a : Int).tmod 2) a = 0) &&
  (decide ((belowL 2 (chT n) ((a : Int).tmod 2) a).length = 2 * (n - a)) && (decide ((dropL 2 (chT n) ((a : Int).tmod 2) a).length = 2 * (n + 1 - a)) &&
  ((List.range (n + 1)).all (fun i => decide (capOk 2 (chRev n a) ((i : Int).tmod 2) i = decide (i < a + 1)) && decide (capOk 2 (chDrop n a) ((i : Int).tmod 2) i = decide (i < a))) &&
  (decide ((ofL 2 (chRev n a) 3).length = 2 * (a + 1)) && decide ((ofL 2 (chDrop n a) 3).length = 2 * a))))))))
theorem ch_der : ∀ k, k < 6 → derE 2 (chT k) ((k : Int).tmod 2) (k : Int) (((k : Int) + 1).tmod 2) ((k : Int) + 1) 3 = 0 := by decide +kernel
theorem ch_ok : ∀ n, n < 7 → ∀ a, a < n + 1 → chOk n a = true := by decide +kernel
structure ChSt (n a : Nat) : Prop where
  cv : CV 2 (chT n)
  below : (belowL 2 (chT n) 0 0).length = 2 * n
  of : (ofL 2 (chT n) 3).length = 2 * (n + 1)
  look : lookE 2 (chT n) ((a : Int).tmod 2) a = 0
  rev : (belowL 2 (chT n) ((a : Int).tmod 2) a).length = 2 * (n - a)
  drop : (dropL 2 (chT n) ((a : Int).tmod 2) a).length = 2 * (n + 1 - a)
  caps : ∀ i, i < n + 1 → capOk 2 (chRev n a) ((i : Int).tmod 2) i = decide (i < a + 1) ∧ capOk 2 (chDrop n a) ((i : Int).tmod 2) i = decide (i < a)
  of1 : (ofL 2 (chRev n a) 3).length = 2 * (a + 1)
  of2 : (ofL 2 (chDrop n a) 3).length = 2 * a
theorem ch_st {n a : Nat} (hn : n < 7) (ha : a < n + 1) : ChSt n a := by
  have h := ch_ok n hn a ha
  simp only [chOk, Bool.and_eq_true, decide_eq_true_eq, List.all_eq_true, List.mem_range] at h
  obtain ⟨h1, h2, h3, h4, h5, h6, h7, h8, h9⟩ := h
  exact ⟨cvB_ok h1, h2, h3, h4, h5, h6, h7, h8, h9⟩
end Go.Sx
