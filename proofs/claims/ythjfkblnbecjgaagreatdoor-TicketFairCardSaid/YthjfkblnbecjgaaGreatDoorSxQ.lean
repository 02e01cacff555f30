/- Code, by fuel. -/
import Derived.Test.YthjfkblnbecjgaaGreatDoorSxP
import Derived.LoopN
set_option linter.unusedVariables false
namespace Go.Sx

def loopN (ex : CodeF) (fid : FuncId) (b : Code) : Nat → Slots → H → (Ex → Slots → H → Tree) → Tree
  | 0, _, _, _ => .fail 164
  | m + 1, sl, h, k => ex fid b sl h fun e sl h => match e with
    | .norm => loopN ex fid b m sl h k
    | e => k e sl h
/-- How a region that draws its order is run; other code's rules are added here. -/
structure More (P : Program) (cfg : Cfg) where
  draw : CodeF → FuncId → Nat → Array Oper → Slots → H → (Slots → H → Tree) → Tree
  loop : CodeF → FuncId → Code → Option (Slots → H → (Ex → Slots → H → Tree) → Tree)

def exec (P : Program) (cfg : Cfg) (more : More P cfg) (rounds : Nat) : Nat → CodeF
  | 0, _, _, _, _, _ => .fail 160
  | n + 1, fid, c, sl, h, k =>
    match c with
    | .skip => k .norm sl h
    | .label _ => k .norm sl h
    | .seq a b => exec P cfg more rounds n fid a sl h fun e sl h => match e with
      | .norm => exec P cfg more rounds n fid b sl h k
      | e => k e sl h
    | .cond x a b => (match evalO sl x with
      | some (.b t) => dec t h fun t h => exec P cfg more rounds n fid (if t then a else b) sl h k
      | _ => .fail 161)
    | .block id b => exec P cfg more rounds n fid b sl h fun e sl h => match e with
      | .exit id' => if id' = id then k .norm sl h else k (.exit id') sl h
      | e => k e sl h
    | .loop b => (match more.loop (exec P cfg more rounds n) fid b with
      | some f => f sl h k
      | none => loopN (exec P cfg more rounds n) fid b rounds sl h k)
    | .exit id => k (.exit id) sl h
    | .ret => k .ret sl h
    | .region id ops draw =>
      if draw then more.draw (exec P cfg more rounds n) fid id ops sl h fun sl h => k .norm sl h
      else execOps P cfg (exec P cfg more rounds n) ops (List.range ops.size) sl h fun sl h => k .norm sl h
    | _ => .fail 163

structure More.Ok (P : Program) (cfg : Cfg) (more : More P cfg) (C : Ctx) : Prop where
  draw : ∀ (ex : CodeF), CodeOk P C ex → ∀ (Φ : Phi) (fid : FuncId) (id : Nat) (ops : Array Oper) (sl : Slots) (h : H) (k : Slots → H → Tree) (Q : Exit → Act → World → Prop) (ρ : Env) (a : Act) (w : World),
    RepS ρ sl a → RepH C ρ h w → (more.draw ex fid id ops sl h k).den Φ ρ.is ρ.ls →
    (∀ sl' h' ρ' a' w', ρ.le ρ' → RepS ρ' sl' a' → RepH C ρ' h' w' → (k sl' h').den Φ ρ'.is ρ'.ls → Q .normal a' w') → (Code.region id ops true).wp P Q a w
  loop : ∀ (ex : CodeF), CodeOk P C ex → ∀ (Φ : Phi) (fid : FuncId) (b : Code) (f : Slots → H → (Ex → Slots → H → Tree) → Tree), more.loop ex fid b = some f →
    ∀ (sl : Slots) (h : H) (k : Ex → Slots → H → Tree) (Q : Exit → Act → World → Prop) (ρ : Env) (a : Act) (w : World),
    RepS ρ sl a → RepH C ρ h w → (f sl h k).den Φ ρ.is ρ.ls →
    (∀ e sl' h' ρ' a' w', ρ.le ρ' → RepS ρ' sl' a' → RepH C ρ' h' w' → (k e sl' h').den Φ ρ'.is ρ'.ls → Q e.to a' w') → (Code.loop b).wp P Q a w

section
variable {C : Ctx} {P : Program} {cfg : Cfg}
theorem loopN_sound {ex : CodeF} (hex : CodeOk P C ex) {Φ : Phi} {fid : FuncId} {b : Code} {Q : Exit → Act → World → Prop} : ∀ (m : Nat) {ρ : Env} {sl : Slots} {h : H} {a : Act} {w : World} {k : Ex → Slots → H → Tree},
    RepS ρ sl a → RepH C ρ h w → (loopN ex fid b m sl h k).den Φ ρ.is ρ.ls →
    (∀ e sl' h' ρ' a' w', ρ.le ρ' → RepS ρ' sl' a' → RepH C ρ' h' w' → (k e sl' h').den Φ ρ'.is ρ'.ls → Q e.to a' w') → Code.rounds P b Q m a w
  | 0, ρ, sl, h, a, w, k, rs, r, hd, hk => hd.elim
  | m + 1, ρ, sl, h, a, w, k, rs, r, hd, hk => by
    rw [rounds_succ]
    unfold loopN at hd
    refine hex Φ fid b sl h _ _ ρ a w rs r hd ?_
    intro e sl' h' ρ' a' w' l rs' r' d'
    cases e with
    | norm => exact loopN_sound hex m rs' r' d' fun e sl2 h2 ρ2 a2 w2 l2 rs2 r2 d2 => hk e sl2 h2 ρ2 a2 w2 (Env.le_trans l l2) rs2 r2 d2
    | exit id => exact hk (.exit id) _ _ _ _ _ l rs' r' d'
    | ret => exact hk .ret _ _ _ _ _ l rs' r' d'

theorem exec_sound {more : More P cfg} {rounds : Nat} (hcfg : cfg.Ok P) (hro : RoOk C cfg.ro) (hm : more.Ok P cfg C) : ∀ n, CodeOk P C (exec P cfg more rounds n)
  | 0 => fun _ _ _ _ _ _ _ _ _ _ _ _ hd _ => hd.elim
  | n + 1 => by
    have ih := exec_sound (rounds := rounds) hcfg hro hm n
    intro Φ fid c sl h k Q ρ a w rs r hd hk
    unfold exec at hd
    cases c with
    | skip => exact wp_skip (hk .norm _ _ _ _ _ (Env.le_refl ρ) rs r hd)
    | label l => exact wp_label (hk .norm _ _ _ _ _ (Env.le_refl ρ) rs r hd)
    | seq x y =>
      refine wp_seq (ih Φ fid x sl h _ _ ρ a w rs r hd ?_)
      intro e sl' h' ρ' a' w' l rs' r' d'
      cases e with
      | norm => exact ih Φ fid y sl' h' k Q ρ' a' w' rs' r' d' fun e sl2 h2 ρ2 a2 w2 l2 rs2 r2 d2 => hk e sl2 h2 ρ2 a2 w2 (Env.le_trans l l2) rs2 r2 d2
      | exit id => exact hk (.exit id) _ _ _ _ _ l rs' r' d'
      | ret => exact hk .ret _ _ _ _ _ l rs' r' d'
    | cond x p q =>
      simp only at hd
      split at hd
      · rename_i t et
        obtain ⟨ht, hv⟩ := (evalO_is rs et).bool
        obtain ⟨b, ρ1, h1, w1, l1, r1, d1, e1, _, hb⟩ := dec_spec (Φ := Φ) (C := C) ht r _ hd
        subst e1
        rw [hb] at hv
        refine wp_cond hv ?_
        refine ih Φ fid _ sl h1 k Q ρ1 a w1 (rs.mono l1) r1 d1 ?_
        intro e sl2 h2 ρ2 a2 w2 l2 rs2 r2 d2
        exact hk e sl2 h2 ρ2 a2 w2 (Env.le_trans l1 l2) rs2 r2 d2
      · exact hd.elim
    | block id b =>
      refine wp_block (ih Φ fid b sl h _ _ ρ a w rs r hd ?_)
      intro e sl' h' ρ' a' w' l rs' r' d'
      cases e with
      | norm => exact hk .norm _ _ _ _ _ l rs' r' d'
      | ret => exact hk .ret _ _ _ _ _ l rs' r' d'
      | exit id' =>
        simp only [Ex.to, Exit.inBlock]
        simp only at d'
        split
        · rename_i he
          rw [if_pos he] at d'
          exact hk .norm _ _ _ _ _ l rs' r' d'
        · rename_i he
          rw [if_neg he] at d'
          exact hk (.exit id') _ _ _ _ _ l rs' r' d'
    | loop b =>
      simp only at hd
      split at hd
      · rename_i f ef
        exact hm.loop _ ih Φ fid b f ef sl h k Q ρ a w rs r hd hk
      · exact wp_loop_rounds rounds (loopN_sound ih rounds rs r hd hk)
    | exit id => exact wp_exit (hk (.exit id) _ _ _ _ _ (Env.le_refl ρ) rs r hd)
    | ret => exact wp_ret (hk .ret _ _ _ _ _ (Env.le_refl ρ) rs r hd)
    | region id ops draw =>
      cases draw with
      | true => exact hm.draw _ ih Φ fid id ops sl h _ Q ρ a w rs r hd fun sl' h' ρ' a' w' l rs' r' d' => hk .norm _ _ _ _ _ l rs' r' d'
      | false => exact wp_region (execOps_sound ih hcfg hro _ rs r hd fun sl' h' ρ' a' w' l rs' r' d' => hk .norm _ _ _ _ _ l rs' r' d')
    | _ => exact hd.elim
end
end Go.Sx
