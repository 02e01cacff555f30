/- A tree piece by piece: of each 'both' one side. -/
import Derived.Test.YtbpilohnhhbbpaaGreatDoorSxM1
set_option linter.unusedVariables false
set_option linter.constructorNameAsVariable false
namespace Go.Sx
def Tree.sel : Tree → List Bool → Tree
  | .both a _, false :: r => .both (a.sel r) (.fail 0)
  | .both _ b, true :: r => .both (.fail 0) (b.sel r)
  | .letI o t, s => .letI o (t.sel s)
  | .letL o t, s => .letL o (t.sel s)
  | .ite a t e, s => .ite a (t.sel s) (e.sel s)
  | .need op a b t, s => .need op a b (t.sel s)
  | .call f r i l ni nl t, s => .call f r i l ni nl (t.sel s)
  | .loop e l b, s => .loop e l (b.sel s)
  | .exit t, s => .exit (t.sel s)
  | .any lo hi t, s => .any lo hi (t.sel s)
  | t, _ => t
theorem sel_nil : ∀ t : Tree, t.sel [] = t
  | .both a b => rfl
  | .letI o t => by rw [Tree.sel, sel_nil t]
  | .letL o t => by rw [Tree.sel, sel_nil t]
  | .ite a t e => by rw [Tree.sel, sel_nil t, sel_nil e]
  | .need op a b t => by rw [Tree.sel, sel_nil t]
  | .call f r i l ni nl t => by rw [Tree.sel, sel_nil t]
  | .loop e l b => by rw [Tree.sel, sel_nil b]
  | .exit t => by rw [Tree.sel, sel_nil t]
  | .any lo hi t => by rw [Tree.sel, sel_nil t]
  | .fail _ => rfl
  | .done _ _ => rfl
  | .again _ _ => rfl
/-- Trees are the same if both sides are, of each 'both' that is reached. -/
theorem sel_eq : ∀ (t u : Tree) (s : List Bool), t.sel (s ++ [false]) = u.sel (s ++ [false]) → t.sel (s ++ [true]) = u.sel (s ++ [true]) → t.sel s = u.sel s
  | .both a b, u, s, h1, h2 => by
    cases u with
    | both a' b' =>
      cases s with
      | nil =>
        simp only [List.nil_append, Tree.sel, Tree.both.injEq, and_true, true_and, sel_nil] at h1 h2
        rw [h1, h2]
      | cons c r =>
        cases c <;> simp only [List.cons_append, Tree.sel, Tree.both.injEq, and_true, true_and] at h1 h2 ⊢
        · exact sel_eq a a' r h1 h2
        · exact sel_eq b b' r h1 h2
    | _ => cases s with
      | nil => simp [Tree.sel] at h1
      | cons c r => cases c <;> simp [Tree.sel] at h1
  | .letI o t, u, s, h1, h2 => by
    cases u <;> first
      | (simp only [Tree.sel, Tree.letI.injEq] at h1 h2 ⊢; exact ⟨h1.1, sel_eq _ _ s h1.2 h2.2⟩)
      | (exfalso; cases s with
        | nil => simp [Tree.sel] at h1
        | cons c r => cases c <;> simp [Tree.sel] at h1)
  | .letL o t, u, s, h1, h2 => by
    cases u <;> first
      | (simp only [Tree.sel, Tree.letL.injEq] at h1 h2 ⊢; exact ⟨h1.1, sel_eq _ _ s h1.2 h2.2⟩)
      | (exfalso; cases s with
        | nil => simp [Tree.sel] at h1
        | cons c r => cases c <;> simp [Tree.sel] at h1)
  | .ite a t e, u, s, h1, h2 => by
    cases u <;> first
      | (simp only [Tree.sel, Tree.ite.injEq] at h1 h2 ⊢; exact ⟨h1.1, sel_eq _ _ s h1.2.1 h2.2.1, sel_eq _ _ s h1.2.2 h2.2.2⟩)
      | (exfalso; cases s with
        | nil => simp [Tree.sel] at h1
        | cons c r => cases c <;> simp [Tree.sel] at h1)
  | .need op a b t, u, s, h1, h2 => by
    cases u <;> first
      | (simp only [Tree.sel, Tree.need.injEq] at h1 h2 ⊢; exact ⟨h1.1, h1.2.1, h1.2.2.1, sel_eq _ _ s h1.2.2.2 h2.2.2.2⟩)
      | (exfalso; cases s with
        | nil => simp [Tree.sel] at h1
        | cons c r => cases c <;> simp [Tree.sel] at h1)
  | .call f r i l ni nl t, u, s, h1, h2 => by
    cases u <;> first
      | (simp only [Tree.sel, Tree.call.injEq] at h1 h2 ⊢; exact ⟨h1.1, h1.2.1, h1.2.2.1, h1.2.2.2.1, h1.2.2.2.2.1, h1.2.2.2.2.2.1, sel_eq _ _ s h1.2.2.2.2.2.2 h2.2.2.2.2.2.2⟩)
      | (exfalso; cases s with
        | nil => simp [Tree.sel] at h1
        | cons c r => cases c <;> simp [Tree.sel] at h1)
  | .loop e l b, u, s, h1, h2 => by
    cases u <;> first
      | (simp only [Tree.sel, Tree.loop.injEq] at h1 h2 ⊢; exact ⟨h1.1, h1.2.1, sel_eq _ _ s h1.2.2 h2.2.2⟩)
      | (exfalso; cases s with
        | nil => simp [Tree.sel] at h1
        | cons c r => cases c <;> simp [Tree.sel] at h1)
  | .exit t, u, s, h1, h2 => by
    cases u <;> first
      | (simp only [Tree.sel, Tree.exit.injEq] at h1 h2 ⊢; exact sel_eq _ _ s h1 h2)
      | (exfalso; cases s with
        | nil => simp [Tree.sel] at h1
        | cons c r => cases c <;> simp [Tree.sel] at h1)
  | .any lo hi t, u, s, h1, h2 => by
    cases u <;> first
      | (simp only [Tree.sel, Tree.any.injEq] at h1 h2 ⊢; exact ⟨h1.1, h1.2.1, sel_eq _ _ s h1.2.2 h2.2.2⟩)
      | (exfalso; cases s with
        | nil => simp [Tree.sel] at h1
        | cons c r => cases c <;> simp [Tree.sel] at h1)
  | .fail _, u, s, h1, h2 => by
    cases u <;> first
      | (simpa only [Tree.sel] using h1)
      | (exfalso; cases s with
        | nil => simp [Tree.sel] at h1
        | cons c r => cases c <;> simp [Tree.sel] at h1)
  | .done _ _, u, s, h1, h2 => by
    cases u <;> first
      | (simpa only [Tree.sel] using h1)
      | (exfalso; cases s with
        | nil => simp [Tree.sel] at h1
        | cons c r => cases c <;> simp [Tree.sel] at h1)
  | .again _ _, u, s, h1, h2 => by
    cases u <;> first
      | (simpa only [Tree.sel] using h1)
      | (exfalso; cases s with
        | nil => simp [Tree.sel] at h1
        | cons c r => cases c <;> simp [Tree.sel] at h1)
def Tree.cut : Tree → List Bool → Tree
  | .ite a t _, true :: r => .ite a (t.cut r) (.fail 0)
  | .ite a _ e, false :: r => .ite a (.fail 0) (e.cut r)
  | .both a b, s => .both (a.cut s) (b.cut s)
  | .letI o t, s => .letI o (t.cut s)
  | .letL o t, s => .letL o (t.cut s)
  | .need op a b t, s => .need op a b (t.cut s)
  | .call f r i l ni nl t, s => .call f r i l ni nl (t.cut s)
  | .loop e l b, s => .loop e l (b.cut s)
  | .exit t, s => .exit (t.cut s)
  | .any lo hi t, s => .any lo hi (t.cut s)
  | t, _ => t
theorem cut_nil : ∀ t : Tree, t.cut [] = t
  | .both a b => by rw [Tree.cut, cut_nil a, cut_nil b]
  | .letI o t => by rw [Tree.cut, cut_nil t]
  | .letL o t => by rw [Tree.cut, cut_nil t]
  | .ite a t e => rfl
  | .need op a b t => by rw [Tree.cut, cut_nil t]
  | .call f r i l ni nl t => by rw [Tree.cut, cut_nil t]
  | .loop e l b => by rw [Tree.cut, cut_nil b]
  | .exit t => by rw [Tree.cut, cut_nil t]
  | .any lo hi t => by rw [Tree.cut, cut_nil t]
  | .fail _ => rfl
  | .done _ _ => rfl
  | .again _ _ => rfl
/-- Trees are the same if both sides are, of each 'ite' that is reached. -/
theorem cut_eq : ∀ (t u : Tree) (s : List Bool), t.cut (s ++ [false]) = u.cut (s ++ [false]) → t.cut (s ++ [true]) = u.cut (s ++ [true]) → t.cut s = u.cut s
  | .ite a t e, u, s, h1, h2 => by
    cases u with
    | ite a' t' e' =>
      cases s with
      | nil =>
        simp only [List.nil_append, Tree.cut, Tree.ite.injEq, and_true, true_and, cut_nil] at h1 h2
        rw [h1.1, h1.2, h2.2]
      | cons c r =>
        cases c <;> simp only [List.cons_append, Tree.cut, Tree.ite.injEq, and_true, true_and] at h1 h2 ⊢
        · exact ⟨h1.1, cut_eq e e' r h1.2 h2.2⟩
        · exact ⟨h1.1, cut_eq t t' r h1.2 h2.2⟩
    | _ => cases s with
      | nil => simp [Tree.cut] at h1
      | cons c r => cases c <;> simp [Tree.cut] at h1
  | .letI o t, u, s, h1, h2 => by
    cases u <;> first
      | (simp only [Tree.cut, Tree.letI.injEq] at h1 h2 ⊢; exact ⟨h1.1, cut_eq _ _ s h1.2 h2.2⟩)
      | (exfalso; cases s with
        | nil => simp [Tree.cut] at h1
        | cons c r => cases c <;> simp [Tree.cut] at h1)
  | .letL o t, u, s, h1, h2 => by
    cases u <;> first
      | (simp only [Tree.cut, Tree.letL.injEq] at h1 h2 ⊢; exact ⟨h1.1, cut_eq _ _ s h1.2 h2.2⟩)
      | (exfalso; cases s with
        | nil => simp [Tree.cut] at h1
        | cons c r => cases c <;> simp [Tree.cut] at h1)
  | .both a b, u, s, h1, h2 => by
    cases u <;> first
      | (simp only [Tree.cut, Tree.both.injEq] at h1 h2 ⊢; exact ⟨cut_eq _ _ s h1.1 h2.1, cut_eq _ _ s h1.2 h2.2⟩)
      | (exfalso; cases s with
        | nil => simp [Tree.cut] at h1
        | cons c r => cases c <;> simp [Tree.cut] at h1)
  | .need op a b t, u, s, h1, h2 => by
    cases u <;> first
      | (simp only [Tree.cut, Tree.need.injEq] at h1 h2 ⊢; exact ⟨h1.1, h1.2.1, h1.2.2.1, cut_eq _ _ s h1.2.2.2 h2.2.2.2⟩)
      | (exfalso; cases s with
        | nil => simp [Tree.cut] at h1
        | cons c r => cases c <;> simp [Tree.cut] at h1)
  | .call f r i l ni nl t, u, s, h1, h2 => by
    cases u <;> first
      | (simp only [Tree.cut, Tree.call.injEq] at h1 h2 ⊢; exact ⟨h1.1, h1.2.1, h1.2.2.1, h1.2.2.2.1, h1.2.2.2.2.1, h1.2.2.2.2.2.1, cut_eq _ _ s h1.2.2.2.2.2.2 h2.2.2.2.2.2.2⟩)
      | (exfalso; cases s with
        | nil => simp [Tree.cut] at h1
        | cons c r => cases c <;> simp [Tree.cut] at h1)
  | .loop e l b, u, s, h1, h2 => by
    cases u <;> first
      | (simp only [Tree.cut, Tree.loop.injEq] at h1 h2 ⊢; exact ⟨h1.1, h1.2.1, cut_eq _ _ s h1.2.2 h2.2.2⟩)
      | (exfalso; cases s with
        | nil => simp [Tree.cut] at h1
        | cons c r => cases c <;> simp [Tree.cut] at h1)
  | .exit t, u, s, h1, h2 => by
    cases u <;> first
      | (simp only [Tree.cut, Tree.exit.injEq] at h1 h2 ⊢; exact cut_eq _ _ s h1 h2)
      | (exfalso; cases s with
        | nil => simp [Tree.cut] at h1
        | cons c r => cases c <;> simp [Tree.cut] at h1)
  | .any lo hi t, u, s, h1, h2 => by
    cases u <;> first
      | (simp only [Tree.cut, Tree.any.injEq] at h1 h2 ⊢; exact ⟨h1.1, h1.2.1, cut_eq _ _ s h1.2.2 h2.2.2⟩)
      | (exfalso; cases s with
        | nil => simp [Tree.cut] at h1
        | cons c r => cases c <;> simp [Tree.cut] at h1)
  | .fail _, u, s, h1, h2 => by
    cases u <;> first
      | (simpa only [Tree.cut] using h1)
      | (exfalso; cases s with
        | nil => simp [Tree.cut] at h1
        | cons c r => cases c <;> simp [Tree.cut] at h1)
  | .done _ _, u, s, h1, h2 => by
    cases u <;> first
      | (simpa only [Tree.cut] using h1)
      | (exfalso; cases s with
        | nil => simp [Tree.cut] at h1
        | cons c r => cases c <;> simp [Tree.cut] at h1)
  | .again _ _, u, s, h1, h2 => by
    cases u <;> first
      | (simpa only [Tree.cut] using h1)
      | (exfalso; cases s with
        | nil => simp [Tree.cut] at h1
        | cons c r => cases c <;> simp [Tree.cut] at h1)
end Go.Sx
