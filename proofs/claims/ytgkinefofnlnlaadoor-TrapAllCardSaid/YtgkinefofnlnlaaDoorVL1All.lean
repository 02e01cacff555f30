/- The statement messuagelaw1.TrapAll of the seat: for every input the law returns true; the condition: errors.errorType is as the program lays it. -/
import Derived.Test.YtgkinefofnlnlaaDoorVL1AllA
import Derived.Test.YtgkinefofnlnlaaDoorVL1AllB
import Derived.Test.YtgkinefofnlnlaaDoorVL1AllC
set_option linter.unusedVariables false
open Go Go.Sx
namespace Go.Proofs.YtgkinefofnlnlaaDoor
open Go.ChangeShapes Go.WideShapes Go.RowKit
set_option maxRecDepth 100000
theorem trapAll_tree_0 {k : Int} (h : 1 ≤ k) (h' : k ≤ 11) : ((lawSpec 3 [.one (.i .i64), .one (.i .i64), .slc [.i .i64], .agg k5]).withRng 2 0 4).exe Tryd.prog (L1.cfgFK Tryd.prog [(0, k)]) [] 20 200 = allTree0 k := by
  rcases kcases h h' with rfl | rfl | rfl | rfl | rfl | rfl | rfl | rfl | rfl | rfl | rfl
  · exact all_tree_0_1
  · exact all_tree_0_2
  · exact all_tree_0_3
  · exact all_tree_0_4
  · exact all_tree_0_5
  · exact all_tree_0_6
  · exact all_tree_0_7
  · exact all_tree_0_8
  · exact all_tree_0_9
  · exact all_tree_0_10
  · exact all_tree_0_11
theorem trapAll_tree_1 {k : Int} (h : 1 ≤ k) (h' : k ≤ 11) : ((lawSpec 3 [.one (.i .i64), .one (.i .i64), .slc [.i .i64], .agg k5]).withRng 2 5 7).exe Tryd.prog (L1.cfgFK Tryd.prog [(0, k)]) [] 20 200 = allTree1 k := by
  rcases kcases h h' with rfl | rfl | rfl | rfl | rfl | rfl | rfl | rfl | rfl | rfl | rfl
  · exact all_tree_1_1
  · exact all_tree_1_2
  · exact all_tree_1_3
  · exact all_tree_1_4
  · exact all_tree_1_5
  · exact all_tree_1_6
  · exact all_tree_1_7
  · exact all_tree_1_8
  · exact all_tree_1_9
  · exact all_tree_1_10
  · exact all_tree_1_11
theorem trapAll_tree_2 {k : Int} (h : 1 ≤ k) (h' : k ≤ 11) : ((lawSpec 3 [.one (.i .i64), .one (.i .i64), .slc [.i .i64], .agg k5]).withRng 2 8 9).exe Tryd.prog (L1.cfgFK Tryd.prog [(0, k)]) [] 20 200 = allTree2 k := by
  rcases kcases h h' with rfl | rfl | rfl | rfl | rfl | rfl | rfl | rfl | rfl | rfl | rfl
  · exact all_tree_2_1
  · exact all_tree_2_2
  · exact all_tree_2_3
  · exact all_tree_2_4
  · exact all_tree_2_5
  · exact all_tree_2_6
  · exact all_tree_2_7
  · exact all_tree_2_8
  · exact all_tree_2_9
  · exact all_tree_2_10
  · exact all_tree_2_11
theorem trapAll_tree_3 {k : Int} (h : 1 ≤ k) (h' : k ≤ 11) : ((lawSpec 3 [.one (.i .i64), .one (.i .i64), .slc [.i .i64], .agg k5]).withRng 2 10 9223372036854775807).exe Tryd.prog (L1.cfgFK Tryd.prog [(0, k)]) [] 20 200 = allTree3 k := by
  rcases kcases h h' with rfl | rfl | rfl | rfl | rfl | rfl | rfl | rfl | rfl | rfl | rfl
  · exact all_tree_3_1
  · exact all_tree_3_2
  · exact all_tree_3_3
  · exact all_tree_3_4
  · exact all_tree_3_5
  · exact all_tree_3_6
  · exact all_tree_3_7
  · exact all_tree_3_8
  · exact all_tree_3_9
  · exact all_tree_3_10
  · exact all_tree_3_11
theorem trapAll_tree_n {k : Int} (h : 1 ≤ k) (h' : k ≤ 11) : (lawSpec 3 [.one (.i .i64), .one (.i .i64), .nil, .agg k5]).exe Tryd.prog (L1.cfgFK Tryd.prog [(0, k)]) [] 20 200 = allTreeN k := by
  rcases kcases h h' with rfl | rfl | rfl | rfl | rfl | rfl | rfl | rfl | rfl | rfl | rfl
  · exact all_tree_n_1
  · exact all_tree_n_2
  · exact all_tree_n_3
  · exact all_tree_n_4
  · exact all_tree_n_5
  · exact all_tree_n_6
  · exact all_tree_n_7
  · exact all_tree_n_8
  · exact all_tree_n_9
  · exact all_tree_n_10
  · exact all_tree_n_11
set_option maxHeartbeats 4000000 in
theorem trapAll_holds_0 {k : Int} (h : 1 ≤ k) (h' : k ≤ 11) : (((lawSpec 3 [.one (.i .i64), .one (.i .i64), .slc [.i .i64], .agg k5]).withPre fun is => L1.codeOf (is.getD 0 0) = k).withRng 2 0 4).Holds Tryd.prog L1.ro := FSpec.holds (cfg := L1.cfgFK Tryd.prog [(0, k)]) [] 20 200 (cfgFK_ok _) mixed (by
  intro is ls h1 h2 hp hr hl
  rw [exe_withPre_rng, trapAll_tree_0 h h']
  have hrng := hr (2, 0, 4) (List.mem_cons_self ..)
  clear hr hl
  obtain ⟨a, b, c, d, e, f, g, i, j, rfl⟩ := nine h1
  have hk : L1.codeOf a = k := hp.2
  subst hk
  have hc : True ∧ slcPre (oneKind [.i .i64]) 1 2 0 [a, b, c, d, e, f, g, i, j] ls := hp.1
  obtain ⟨-, c1, c2, -⟩ := hc
  simp at c1 c2
  simp at hrng
  clear hp h1 h2
  simp [den_letI, den_ite, den_need, den_done, IOp.den, call_begun, call_code, call_first, cmpB, b2i, At.den, FSpec.withPre, FSpec.withRng, lawSpec, PSt.add, allTree0]
  try omega)
set_option maxHeartbeats 4000000 in
theorem trapAll_holds_1 {k : Int} (h : 1 ≤ k) (h' : k ≤ 11) : (((lawSpec 3 [.one (.i .i64), .one (.i .i64), .slc [.i .i64], .agg k5]).withPre fun is => L1.codeOf (is.getD 0 0) = k).withRng 2 5 7).Holds Tryd.prog L1.ro := FSpec.holds (cfg := L1.cfgFK Tryd.prog [(0, k)]) [] 20 200 (cfgFK_ok _) mixed (by
  intro is ls h1 h2 hp hr hl
  rw [exe_withPre_rng, trapAll_tree_1 h h']
  have hrng := hr (2, 5, 7) (List.mem_cons_self ..)
  clear hr hl
  obtain ⟨a, b, c, d, e, f, g, i, j, rfl⟩ := nine h1
  have hk : L1.codeOf a = k := hp.2
  subst hk
  have hc : True ∧ slcPre (oneKind [.i .i64]) 1 2 0 [a, b, c, d, e, f, g, i, j] ls := hp.1
  obtain ⟨-, c1, c2, -⟩ := hc
  simp at c1 c2
  simp at hrng
  clear hp h1 h2
  simp [den_letI, den_ite, den_need, den_done, IOp.den, call_begun, call_code, call_first, cmpB, b2i, At.den, FSpec.withPre, FSpec.withRng, lawSpec, PSt.add, allTree1]
  try omega)
set_option maxHeartbeats 4000000 in
theorem trapAll_holds_2 {k : Int} (h : 1 ≤ k) (h' : k ≤ 11) : (((lawSpec 3 [.one (.i .i64), .one (.i .i64), .slc [.i .i64], .agg k5]).withPre fun is => L1.codeOf (is.getD 0 0) = k).withRng 2 8 9).Holds Tryd.prog L1.ro := FSpec.holds (cfg := L1.cfgFK Tryd.prog [(0, k)]) [] 20 200 (cfgFK_ok _) mixed (by
  intro is ls h1 h2 hp hr hl
  rw [exe_withPre_rng, trapAll_tree_2 h h']
  have hrng := hr (2, 8, 9) (List.mem_cons_self ..)
  clear hr hl
  obtain ⟨a, b, c, d, e, f, g, i, j, rfl⟩ := nine h1
  have hk : L1.codeOf a = k := hp.2
  subst hk
  have hc : True ∧ slcPre (oneKind [.i .i64]) 1 2 0 [a, b, c, d, e, f, g, i, j] ls := hp.1
  obtain ⟨-, c1, c2, -⟩ := hc
  simp at c1 c2
  simp at hrng
  clear hp h1 h2
  simp [den_letI, den_ite, den_need, den_done, IOp.den, call_begun, call_code, call_first, cmpB, b2i, At.den, FSpec.withPre, FSpec.withRng, lawSpec, PSt.add, allTree2]
  try omega)
set_option maxHeartbeats 4000000 in
theorem trapAll_holds_3 {k : Int} (h : 1 ≤ k) (h' : k ≤ 11) : (((lawSpec 3 [.one (.i .i64), .one (.i .i64), .slc [.i .i64], .agg k5]).withPre fun is => L1.codeOf (is.getD 0 0) = k).withRng 2 10 9223372036854775807).Holds Tryd.prog L1.ro := FSpec.holds (cfg := L1.cfgFK Tryd.prog [(0, k)]) [] 20 200 (cfgFK_ok _) mixed (by
  intro is ls h1 h2 hp hr hl
  rw [exe_withPre_rng, trapAll_tree_3 h h']
  have hrng := hr (2, 10, 9223372036854775807) (List.mem_cons_self ..)
  clear hr hl
  obtain ⟨a, b, c, d, e, f, g, i, j, rfl⟩ := nine h1
  have hk : L1.codeOf a = k := hp.2
  subst hk
  have hc : True ∧ slcPre (oneKind [.i .i64]) 1 2 0 [a, b, c, d, e, f, g, i, j] ls := hp.1
  obtain ⟨-, c1, c2, -⟩ := hc
  simp at c1 c2
  simp at hrng
  clear hp h1 h2
  simp [den_letI, den_ite, den_need, den_done, IOp.den, call_begun, call_code, call_first, cmpB, b2i, At.den, FSpec.withPre, FSpec.withRng, lawSpec, PSt.add, allTree3]
  try omega)
theorem trapAll_holds {k : Int} (h : 1 ≤ k) (h' : k ≤ 11) : ((lawSpec 3 [.one (.i .i64), .one (.i .i64), .slc [.i .i64], .agg k5]).withPre fun is => L1.codeOf (is.getD 0 0) = k).Holds Tryd.prog L1.ro := holds_split 2 (by show 2 < 9; decide) fun x hx => by
  have h0 := hx (2, 0, 9223372036854775807) (by simp [FSpec.withPre, lawSpec, PSt.add]) rfl
  simp only at h0
  rcases Int.lt_or_le 4 x with g0 | g0
  rotate_left
  · exact ⟨0, 4, by omega, g0, trapAll_holds_0 h h'⟩
  rcases Int.lt_or_le 7 x with g1 | g1
  rotate_left
  · exact ⟨5, 7, by omega, g1, trapAll_holds_1 h h'⟩
  rcases Int.lt_or_le 9 x with g2 | g2
  rotate_left
  · exact ⟨8, 9, by omega, g2, trapAll_holds_2 h h'⟩
  exact ⟨10, 9223372036854775807, by omega, h0.2, trapAll_holds_3 h h'⟩
theorem trapAll_holds_n {k : Int} (h : 1 ≤ k) (h' : k ≤ 11) : ((lawSpec 3 [.one (.i .i64), .one (.i .i64), .nil, .agg k5]).withPre fun is => L1.codeOf (is.getD 0 0) = k).Holds Tryd.prog L1.ro := FSpec.holds (cfg := L1.cfgFK Tryd.prog [(0, k)]) [] 20 200 (cfgFK_ok _) mixed (by
  intro is ls h1 h2 hp hr hl
  rw [exe_withPre, trapAll_tree_n h h']
  clear hr hl
  obtain ⟨a, b, c, d, e, f, g, rfl⟩ := seven h1
  have hk : L1.codeOf a = k := hp.2
  subst hk
  simp [den_letI, den_ite, den_need, den_done, IOp.den, call_begun, call_code, call_first, cmpB, b2i, At.den, FSpec.withPre, lawSpec, PSt.add, allTreeN]
  exact ⟨fun e => e.symm, fun e e2 => e e2.symm⟩)

theorem trapAll_calls {H : Type} {enc : TypeId × Value → H} {W : World} {base : Nat} {args : Array Value} {ds : List (DataW H)} {p : List MemPlace} (hval : ∀ (j : Nat) t v, Tryd.f3.params[j]? = some t → args[j]? = some v → Value.okWide Tryd.prog W .any base t v)
    (hA : DataW.TrodAll enc Tryd.prog W 0 (fun _ => true) true Tryd.f3.params.toList args.toList ds p) (hL : laidMetH Tryd.prog laid1 W) : Calls Tryd.prog 3 args W fun e W' => e = .returned (.bool true) ∧ Go.Sx.Frame ⟨W, [], L1.ro⟩ W' := by
  rw [Tryd.params3] at hA hval
  obtain ⟨v0, v1, v2, v3, d0, d1, d2, d3, p0, p1, p2, p3, rfl, rfl, rfl, h0, h1, h2, h3⟩ := trodAll_four hA
  obtain ⟨n0, q0⟩ := par_int (base := 0) und3 (hval 0 3 v0 rfl rfl) h0
  obtain ⟨n1, q1⟩ := par_int (base := 0) und3 (hval 1 3 v1 rfl rfl) h1
  obtain ⟨e3, q3⟩ := par_flat (base := 0) (f := 9) (by first | exact agg25 | rw [und25]) flat25 (hval 3 25 v3 rfl rfl) h3
  rcases par_flats (base := 0) (f := 9) und22 flat3 cells3 (by decide) (hval 2 22 v2 rfl rfl) h2 with q2 | ⟨e2, q2⟩
  · exact law_calls (trapAll_holds_n (codeOf_range n0).1 (codeOf_range n0).2) Tryd.func3 (show Tryd.f3.body = some _ from rfl) (by kernel_rfl) (.cons q0 (.cons q1 (.cons q2 (.cons q3 .none)))) rfl (ro_of_laid hL)
  · exact law_calls (trapAll_holds (codeOf_range n0).1 (codeOf_range n0).2) Tryd.func3 (show Tryd.f3.body = some _ from rfl) (by kernel_rfl) (.cons q0 (.cons q1 (.cons q2 (.cons q3 .none)))) rfl (ro_of_laid hL)
set_option maxHeartbeats 1000000 in
theorem trapAll_lifted (os : Os) (started : os.Started) (H : Type) (enc : TypeId × Value → H) :
    ReturnsInHanded {} Tryd.checked os 3 .any (fun w args => (Rows.trapAllSpec.pre enc Tryd.prog Tryd.f3 [] false w args ∧ laidMetH Tryd.prog laid1 w) ∧ sizedMet enc Tryd.prog Tryd.f3 (OpenSpec.ofChange Rows.trapAllSpec) false w args)
      (Rows.trapAllSpec.post enc Tryd.prog Tryd.f3 false true false false) := by
  refine returnsInHanded_of_change_and (C := Tryd.checked) (X := fun w _ => laidMetH Tryd.prog laid1 w) (fun _ _ _ hh h => h.of_heap hh) Tryd.own started (by kernel_rfl) Tryd.func3
    (ChangeSpec.witness_at (enc := enc) (C := Tryd.checked) (os := os) (X := fun w _ => laidMetH Tryd.prog laid1 w) false (laidWorld os) #[.int .i64 0, .int .i64 0, .slice none 0 0, .agg #[.int .u64 0, .int .u64 0, .int .u64 0, .int .u64 0, .int .u64 0]] 8 rfl (by kernel_rfl) (by kernel_rfl) (by kernel_rfl) (by kernel_rfl) (by kernel_rfl) (laidWorld_met os _)) ?_
  intro W base args ds gs before hval0 hW _ _ hL _
  have hval : ∀ (j : Nat) t v, Tryd.f3.params[j]? = some t → args[j]? = some v → Value.okWide Tryd.prog W .any base t v := hval0
  have hW' := hW
  obtain ⟨p, q, hA0, hV0, rfl, hfz, hnd⟩ := hW
  have hcall := trapAll_calls (enc := enc) hval hA0 hL
  refine Calls.mono hcall ?_
  rintro e W' ⟨rfl, hfr⟩
  exact ⟨_, rfl, post_kept Tryd.laidOut (by kernel_rfl) rfl rfl und4 hW' hfr (by
    have hg : gs = [] := by cases gs with | nil => rfl | cons g r => exact absurd hV0 (by intro h; cases h)
    subst hg
    have hA1 : DataW.TrodAll enc Tryd.prog W 0 (fun _ => true) true Tryd.f3.params.toList args.toList ds p := hA0
    rw [Tryd.params3] at hA1
    obtain ⟨v0, v1, v2, v3, d0, d1, d2, d3, p0, p1, p2, p3, ea, rfl, ec, h0, h1, h2, h3⟩ := trodAll_four hA1
    rfl)⟩

theorem trapAll_row : Rows.TrapAllSaid :=
  OpenClaim.holds_of_wide 3 Tryd.f3 rfl rfl rfl rfl rfl rfl rfl ⟨rfl, rfl, rfl, rfl, rfl⟩ rfl rfl rfl rfl rfl (by kernel_rfl) Tryd.func3 (by kernel_rfl)
    (of_decide_eq_true (by kernel_rfl)) (by unfold Func.isWrapper; rw [if_neg (of_decide_eq_false (by kernel_rfl))]; exact ⟨rfl, rfl⟩)
    (fun os started H enc _ => trapAll_lifted os started H enc)
theorem trapAll_card : Rows.TrapAllCardSaid :=
  Claim7.holds_tied_plain_at .later [] [.handle] true (true, "7638421efab938d917ef4a33a3f13491bb579d54ec70411b972aa9fe9f152a7b") true
    trapAll_row (fun _ h => by cases h) (by kernel_rfl) (fun _ h => by cases h) trapAll_row_tie rfl ⟨rfl, rfl⟩ (by kernel_rfl) rfl
    (fun f fn hf hfn => by
      obtain rfl : f = 3 := Option.some.inj ((show Tryd.prog.funcNamed "messuage/messuagelaw1.TrapAll" = some 3 by kernel_rfl).symm.trans hf) |>.symm
      obtain rfl : fn = Tryd.f3 := (Option.some.inj (Tryd.func3.symm.trans hfn)).symm
      exact ⟨by kernel_rfl, fun j t ht => by
        rw [Tryd.params3] at ht
        rcases j with _ | _ | _ | _ | j
        · obtain rfl : 3 = t := by simpa using ht
          exact (show Tryd.prog.wantsStandIn 3 = false by kernel_rfl)
        · obtain rfl : 3 = t := by simpa using ht
          exact (show Tryd.prog.wantsStandIn 3 = false by kernel_rfl)
        · obtain rfl : 22 = t := by simpa using ht
          exact (show Tryd.prog.wantsStandIn 22 = false by kernel_rfl)
        · obtain rfl : 25 = t := by simpa using ht
          exact (show Tryd.prog.wantsStandIn 25 = false by kernel_rfl)
        · simp at ht⟩)
    (by kernel_rfl)
#print axioms trapAll_card
end Go.Proofs.YtgkinefofnlnlaaDoor
