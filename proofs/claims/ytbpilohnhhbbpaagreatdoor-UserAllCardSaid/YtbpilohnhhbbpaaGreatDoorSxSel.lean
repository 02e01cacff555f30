/- A tree piece by piece: of each 'both' one side. -/
import Derived.Test.YtbpilohnhhbbpaaGreatDoorSxM1
set_option linter.unusedVariables false
set_option linter.constructorNameAsVariable false
namespace Go.Sx
def Tree.pk : Tree → List Bool → Tree
  | .ite a t _, true :: r => .ite a (t.pk r) (.fail 0)
  | .ite a _ e, false :: r => .ite a (.fail 0) (e.pk r)
  | .both a _, true :: r => .both (a.pk r) (.fail 0)
  | .both _ b, false :: r => .both (.fail 0) (b.pk r)
  | .letI o t, s => .letI o (t.pk s)
  | .letL o t, s => .letL o (t.pk s)
  | .need op a b t, s => .need op a b (t.pk s)
  | .call f r i l ni nl t, s => .call f r i l ni nl (t.pk s)
  | .loop e l b, s => .loop e l (b.pk s)
  | .exit t, s => .exit (t.pk s)
  | .any lo hi t, s => .any lo hi (t.pk s)
  | t, _ => t
theorem pk_nil : ∀ t : Tree, t.pk [] = t
  | .both a b => rfl
  | .letI o t => by rw [Tree.pk, pk_nil t]
  | .letL o t => by rw [Tree.pk, pk_nil t]
  | .ite a t e => rfl
  | .need op a b t => by rw [Tree.pk, pk_nil t]
  | .call f r i l ni nl t => by rw [Tree.pk, pk_nil t]
  | .loop e l b => by rw [Tree.pk, pk_nil b]
  | .exit t => by rw [Tree.pk, pk_nil t]
  | .any lo hi t => by rw [Tree.pk, pk_nil t]
  | .fail _ => rfl
  | .done _ _ => rfl
  | .again _ _ => rfl
theorem pk_eq : ∀ (t u : Tree) (s : List Bool), t.pk (s ++ [false]) = u.pk (s ++ [false]) → t.pk (s ++ [true]) = u.pk (s ++ [true]) → t.pk s = u.pk s
  | .ite a t e, u, s, h1, h2 => by
    cases u with
    | ite a' t' e' =>
      cases s with
      | nil =>
        simp only [List.nil_append, Tree.pk, Tree.ite.injEq, and_true, true_and, pk_nil] at h1 h2
        rw [h1.1, h1.2, h2.2]
      | cons c r =>
        cases c <;> simp only [List.cons_append, Tree.pk, Tree.ite.injEq, and_true, true_and] at h1 h2 ⊢
        · exact ⟨h1.1, pk_eq e e' r h1.2 h2.2⟩
        · exact ⟨h1.1, pk_eq t t' r h1.2 h2.2⟩
    | _ => cases s with
      | nil => simp [Tree.pk] at h1
      | cons c r => cases c <;> simp [Tree.pk] at h1
  | .letI o t, u, s, h1, h2 => by
    cases u <;> first
      | (simp only [Tree.pk, Tree.letI.injEq] at h1 h2 ⊢; exact ⟨h1.1, pk_eq _ _ s h1.2 h2.2⟩)
      | (exfalso; cases s with
        | nil => simp [Tree.pk] at h1
        | cons c r => cases c <;> simp [Tree.pk] at h1)
  | .letL o t, u, s, h1, h2 => by
    cases u <;> first
      | (simp only [Tree.pk, Tree.letL.injEq] at h1 h2 ⊢; exact ⟨h1.1, pk_eq _ _ s h1.2 h2.2⟩)
      | (exfalso; cases s with
        | nil => simp [Tree.pk] at h1
        | cons c r => cases c <;> simp [Tree.pk] at h1)
  | .both a b, u, s, h1, h2 => by
    cases u with
    | both a' b' =>
      cases s with
      | nil =>
        simp only [List.nil_append, Tree.pk, Tree.both.injEq, and_true, true_and, pk_nil] at h1 h2
        rw [h1, h2]
      | cons c r =>
        cases c <;> simp only [List.cons_append, Tree.pk, Tree.both.injEq, and_true, true_and] at h1 h2 ⊢
        · exact pk_eq b b' r h1 h2
        · exact pk_eq a a' r h1 h2
    | _ => cases s with
      | nil => simp [Tree.pk] at h1
      | cons c r => cases c <;> simp [Tree.pk] at h1
  | .need op a b t, u, s, h1, h2 => by
    cases u <;> first
      | (simp only [Tree.pk, Tree.need.injEq] at h1 h2 ⊢; exact ⟨h1.1, h1.2.1, h1.2.2.1, pk_eq _ _ s h1.2.2.2 h2.2.2.2⟩)
      | (exfalso; cases s with
        | nil => simp [Tree.pk] at h1
        | cons c r => cases c <;> simp [Tree.pk] at h1)
  | .call f r i l ni nl t, u, s, h1, h2 => by
    cases u <;> first
      | (simp only [Tree.pk, Tree.call.injEq] at h1 h2 ⊢; exact ⟨h1.1, h1.2.1, h1.2.2.1, h1.2.2.2.1, h1.2.2.2.2.1, h1.2.2.2.2.2.1, pk_eq _ _ s h1.2.2.2.2.2.2 h2.2.2.2.2.2.2⟩)
      | (exfalso; cases s with
        | nil => simp [Tree.pk] at h1
        | cons c r => cases c <;> simp [Tree.pk] at h1)
  | .loop e l b, u, s, h1, h2 => by
    cases u <;> first
      | (simp only [Tree.pk, Tree.loop.injEq] at h1 h2 ⊢; exact ⟨h1.1, h1.2.1, pk_eq _ _ s h1.2.2 h2.2.2⟩)
      | (exfalso; cases s with
        | nil => simp [Tree.pk] at h1
        | cons c r => cases c <;> simp [Tree.pk] at h1)
  | .exit t, u, s, h1, h2 => by
    cases u <;> first
      | (simp only [Tree.pk, Tree.exit.injEq] at h1 h2 ⊢; exact pk_eq _ _ s h1 h2)
      | (exfalso; cases s with
        | nil => simp [Tree.pk] at h1
        | cons c r => cases c <;> simp [Tree.pk] at h1)
  | .any lo hi t, u, s, h1, h2 => by
    cases u <;> first
      | (simp only [Tree.pk, Tree.any.injEq] at h1 h2 ⊢; exact ⟨h1.1, h1.2.1, pk_eq _ _ s h1.2.2 h2.2.2⟩)
      | (exfalso; cases s with
        | nil => simp [Tree.pk] at h1
        | cons c r => cases c <;> simp [Tree.pk] at h1)
  | .fail _, u, s, h1, h2 => by
    cases u <;> first
      | (simpa only [Tree.pk] using h1)
      | (exfalso; cases s with
        | nil => simp [Tree.pk] at h1
        | cons c r => cases c <;> simp [Tree.pk] at h1)
  | .done _ _, u, s, h1, h2 => by
    cases u <;> first
      | (simpa only [Tree.pk] using h1)
      | (exfalso; cases s with
        | nil => simp [Tree.pk] at h1
        | cons c r => cases c <;> simp [Tree.pk] at h1)
  | .again _ _, u, s, h1, h2 => by
    cases u <;> first
      | (simpa only [Tree.pk] using h1)
      | (exfalso; cases s with
        | nil => simp [Tree.pk] at h1
        | cons c r => cases c <;> simp [Tree.pk] at h1)
def Tree.mn : Tree → List Bool → Tree
  | _, [] => .fail 0
  | .ite a t e, true :: r => .ite a (t.mn r) e
  | .ite a t e, false :: r => .ite a t (e.mn r)
  | .both a b, true :: r => .both (a.mn r) b
  | .both a b, false :: r => .both a (b.mn r)
  | .letI o t, c :: r => .letI o (t.mn (c :: r))
  | .letL o t, c :: r => .letL o (t.mn (c :: r))
  | .need op a b t, c :: r => .need op a b (t.mn (c :: r))
  | .call f q i l ni nl t, c :: r => .call f q i l ni nl (t.mn (c :: r))
  | .loop e l b, c :: r => .loop e l (b.mn (c :: r))
  | .exit t, c :: r => .exit (t.mn (c :: r))
  | .any lo hi t, c :: r => .any lo hi (t.mn (c :: r))
  | t, _ :: _ => t
theorem mn_eq : ∀ (t u : Tree) (s : List Bool), t.mn s = u.mn s → t.pk s = u.pk s → t = u
  | t, u, [], _, h2 => by rw [pk_nil, pk_nil] at h2; exact h2
  | .ite a t e, u, c :: r, h1, h2 => by
    cases u <;> cases c <;> simp only [Tree.mn, Tree.pk, Tree.ite.injEq, reduceCtorEq] at h1 h2
    · rw [h1.1, h1.2.1, mn_eq e _ r h1.2.2 h2.2.2]
    · rw [h1.1, h1.2.2, mn_eq t _ r h1.2.1 h2.2.1]
  | .both a b, u, c :: r, h1, h2 => by
    cases u <;> cases c <;> simp only [Tree.mn, Tree.pk, Tree.both.injEq, reduceCtorEq] at h1 h2
    · rw [h1.1, mn_eq b _ r h1.2 h2.2]
    · rw [h1.2, mn_eq a _ r h1.1 h2.1]
  | .letI o t, u, c :: r, h1, h2 => by
    cases u <;> cases c <;> simp only [Tree.mn, Tree.pk, Tree.letI.injEq, reduceCtorEq] at h1 h2 <;> rw [h1.1, mn_eq t _ _ h1.2 h2.2]
  | .letL o t, u, c :: r, h1, h2 => by
    cases u <;> cases c <;> simp only [Tree.mn, Tree.pk, Tree.letL.injEq, reduceCtorEq] at h1 h2 <;> rw [h1.1, mn_eq t _ _ h1.2 h2.2]
  | .need op a b t, u, c :: r, h1, h2 => by
    cases u <;> cases c <;> simp only [Tree.mn, Tree.pk, Tree.need.injEq, reduceCtorEq] at h1 h2 <;> rw [h1.1, h1.2.1, h1.2.2.1, mn_eq t _ _ h1.2.2.2 h2.2.2.2]
  | .call f q i l ni nl t, u, c :: r, h1, h2 => by
    cases u <;> cases c <;> simp only [Tree.mn, Tree.pk, Tree.call.injEq, reduceCtorEq] at h1 h2 <;> rw [h1.1, h1.2.1, h1.2.2.1, h1.2.2.2.1, h1.2.2.2.2.1, h1.2.2.2.2.2.1, mn_eq t _ _ h1.2.2.2.2.2.2 h2.2.2.2.2.2.2]
  | .loop e l b, u, c :: r, h1, h2 => by
    cases u <;> cases c <;> simp only [Tree.mn, Tree.pk, Tree.loop.injEq, reduceCtorEq] at h1 h2 <;> rw [h1.1, h1.2.1, mn_eq b _ _ h1.2.2 h2.2.2]
  | .exit t, u, c :: r, h1, h2 => by
    cases u <;> cases c <;> simp only [Tree.mn, Tree.pk, Tree.exit.injEq, reduceCtorEq] at h1 h2 <;> rw [mn_eq t _ _ h1 h2]
  | .any lo hi t, u, c :: r, h1, h2 => by
    cases u <;> cases c <;> simp only [Tree.mn, Tree.pk, Tree.any.injEq, reduceCtorEq] at h1 h2 <;> rw [h1.1, h1.2.1, mn_eq t _ _ h1.2.2 h2.2.2]
  | .fail n, u, c :: r, h1, h2 => by
    cases u <;> cases c <;> simp only [Tree.mn, Tree.pk, reduceCtorEq] at h1 h2 <;> exact h1
  | .done x y, u, c :: r, h1, h2 => by
    cases u <;> cases c <;> simp only [Tree.mn, Tree.pk, reduceCtorEq] at h1 h2 <;> exact h1
  | .again x y, u, c :: r, h1, h2 => by
    cases u <;> cases c <;> simp only [Tree.mn, Tree.pk, reduceCtorEq] at h1 h2 <;> exact h1
theorem pk_pk : ∀ (t : Tree) (s r : List Bool), (t.pk s).pk (s ++ r) = t.pk (s ++ r)
  | t, [], r => by rw [pk_nil]
  | .ite a t e, c :: s, r => by cases c <;> simp only [List.cons_append, Tree.pk] <;> rw [pk_pk]
  | .both a b, c :: s, r => by cases c <;> simp only [List.cons_append, Tree.pk] <;> rw [pk_pk]
  | .letI o t, c :: s, r => by have := pk_pk t (c :: s) r; cases c <;> simp only [List.cons_append, Tree.pk] at this ⊢ <;> rw [this]
  | .letL o t, c :: s, r => by have := pk_pk t (c :: s) r; cases c <;> simp only [List.cons_append, Tree.pk] at this ⊢ <;> rw [this]
  | .need op a b t, c :: s, r => by have := pk_pk t (c :: s) r; cases c <;> simp only [List.cons_append, Tree.pk] at this ⊢ <;> rw [this]
  | .call f q i l ni nl t, c :: s, r => by have := pk_pk t (c :: s) r; cases c <;> simp only [List.cons_append, Tree.pk] at this ⊢ <;> rw [this]
  | .loop e l b, c :: s, r => by have := pk_pk b (c :: s) r; cases c <;> simp only [List.cons_append, Tree.pk] at this ⊢ <;> rw [this]
  | .exit t, c :: s, r => by have := pk_pk t (c :: s) r; cases c <;> simp only [List.cons_append, Tree.pk] at this ⊢ <;> rw [this]
  | .any lo hi t, c :: s, r => by have := pk_pk t (c :: s) r; cases c <;> simp only [List.cons_append, Tree.pk] at this ⊢ <;> rw [this]
  | .fail n, c :: s, r => by cases c <;> simp only [List.cons_append, Tree.pk]
  | .done x y, c :: s, r => by cases c <;> simp only [List.cons_append, Tree.pk]
  | .again x y, c :: s, r => by cases c <;> simp only [List.cons_append, Tree.pk]
theorem part_eq {t u : Tree} {s r : List Bool} (h1 : (t.pk s).mn (s ++ r) = (u.pk s).mn (s ++ r)) (h2 : t.pk (s ++ r) = u.pk (s ++ r)) : t.pk s = u.pk s :=
  mn_eq _ _ (s ++ r) h1 (by rw [pk_pk, pk_pk]; exact h2)
def Tree.idT : Tree → Tree
  | .both a b => .both a.idT b.idT
  | .letI o t => .letI o t.idT
  | .letL o t => .letL o t.idT
  | .ite a t e => .ite a t.idT e.idT
  | .need op a b t => .need op a b t.idT
  | .call f r i l ni nl t => .call f r i l ni nl t.idT
  | .loop e l b => .loop e l b.idT
  | .exit t => .exit t.idT
  | .any lo hi t => .any lo hi t.idT
  | .fail n => .fail n
  | .done x y => .done x y
  | .again x y => .again x y
theorem idT_eq : ∀ t : Tree, t.idT = t
  | .both a b => by rw [Tree.idT, idT_eq a, idT_eq b]
  | .letI o t => by rw [Tree.idT, idT_eq t]
  | .letL o t => by rw [Tree.idT, idT_eq t]
  | .ite a t e => by rw [Tree.idT, idT_eq t, idT_eq e]
  | .need op a b t => by rw [Tree.idT, idT_eq t]
  | .call f r i l ni nl t => by rw [Tree.idT, idT_eq t]
  | .loop e l b => by rw [Tree.idT, idT_eq b]
  | .exit t => by rw [Tree.idT, idT_eq t]
  | .any lo hi t => by rw [Tree.idT, idT_eq t]
  | .fail _ => rfl
  | .done _ _ => rfl
  | .again _ _ => rfl
end Go.Sx
